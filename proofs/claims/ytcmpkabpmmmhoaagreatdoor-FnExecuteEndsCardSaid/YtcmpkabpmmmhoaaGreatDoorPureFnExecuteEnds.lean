/- The law FnExecuteEnds, as a statement over plain numbers and lists, is proved: what the program's functions compute is what the reference's compute. -/
import Derived.Test.YtcmpkabpmmmhoaaGreatDoorPFnExecuteEndsx5
import Derived.Lib.SlicesCompact
import Derived.Lib.RowBridge
import Derived.Lib.SplitLaws
import Derived.Laws.Entries
namespace Go.Proofs.YtcmpkabpmmmhoaaGreatDoor.Pure
open Go.RowKit Go.Proofs.YtcmpkabpmmmhoaaGreatDoor.PFnExecuteEnds Go.Proofs.YtcmpkabpmmmhoaaGreatDoorW.PrintWords Go.Proofs.YtcmpkabpmmmhoaaGreatDoorW.PrintLast
set_option linter.unusedVariables false
set_option linter.unusedSimpArgs false
/-! ### lists of whole numbers -/
theorem wrap_nat {n : Nat} (h : n < 4611686018427387904) : wrap64 ((n : Int) + 1) = ((n + 1 : Nat) : Int) := by unfold wrap64; omega
theorem rd_at {l : List Int} {i : Nat} (h : i < l.length) : rd l (i : Int) = l[i] := by
  unfold rd
  rw [Int.toNat_natCast, List.getD_eq_getElem?_getD, List.getElem?_eq_getElem h]
  rfl
theorem and_one (a : Nat) (ha : a < 4611686018427387904) : Go.bits .and .i64 (a : Int) 1 = ((a % 2 : Nat) : Int) := by
  have h1 : (BitVec.ofInt 64 (a : Int)).toNat = a := by
    rw [BitVec.ofInt_natCast, BitVec.toNat_ofNat]; exact Nat.mod_eq_of_lt (by omega)
  have h2 : (BitVec.ofInt 64 (1 : Int)).toNat = 1 := by decide
  show IntKind.i64.wrap ((BitVec.ofInt 64 (a : Int) &&& BitVec.ofInt 64 (1 : Int)).toNat : Int) = _
  rw [BitVec.toNat_and, h1, h2, Nat.and_one_is_mod]
  have : a % 2 < 2 := Nat.mod_lt _ (by omega)
  generalize a % 2 = c at this
  simp [IntKind.wrap, IntKind.bits, IntKind.signed]
  omega
theorem ite_same {α : Type} {p q : Prop} [Decidable p] [Decidable q] (h : p ↔ q) {a b : α} : (if p then a else b) = if q then a else b := by
  by_cases hq : q
  · rw [if_pos (h.mpr hq), if_pos hq]
  · rw [if_neg (fun x => hq (h.mp x)), if_neg hq]
theorem same_l (l : List Int) (hl : l.length ≤ 1000) : ∀ (d k i : Nat), i + d = l.length → d + 1 ≤ k → laws_sameInts.l0 k l l (i : Int) = some true := by
  intro d
  induction d with
  | zero =>
    intro k i hi hk
    obtain ⟨m, rfl⟩ : ∃ m, k = m + 1 := ⟨k - 1, by omega⟩
    rw [laws_sameInts.l0, if_neg (by omega)]
  | succ d ih =>
    intro k i hi hk
    obtain ⟨m, rfl⟩ : ∃ m, k = m + 1 := ⟨k - 1, by omega⟩
    rw [laws_sameInts.l0, if_pos (by omega), if_pos (by omega), if_pos (by omega), if_pos rfl, wrap_nat (by omega)]
    exact ih m (i + 1) (by omega) (by omega)
theorem same_tells (l : List Int) (hl : l.length ≤ 1000) (k : Nat) (hk : l.length + 1 ≤ k) : laws_sameInts.f k l l = some true := by
  unfold laws_sameInts.f
  rw [if_pos rfl]
  exact same_l l hl l.length k 0 (by omega) (by omega)
/-! ### rulers -/
def isRuler (l : List Int) : Prop := (∀ x ∈ l, 1 ≤ x ∧ x ≤ 60) ∧ 1 ≤ l.length ∧ l.length ≤ 9
instance (l : List Int) : Decidable (isRuler l) := by unfold isRuler; infer_instance
theorem spec_in (a b c : Int) : spec_l6In.f a b c = some (decide (b ≤ a ∧ a ≤ c)) := by
  unfold spec_l6In.f
  by_cases h : a ≥ b
  · rw [if_pos h]
    congr 1
    exact decide_eq_decide.mpr ⟨fun x => ⟨h, x⟩, fun x => x.2⟩
  · rw [if_neg h, decide_eq_false (fun x => h x.1)]
theorem impl_ruler_l (l : List Int) (hl : l.length ≤ 1048576) : ∀ (d k i : Nat), i + d = l.length → d + 1 ≤ k →
    impl_isRuler.l0 k l l (l.length : Int) (i : Int) = some (decide ((∀ x ∈ l.drop i, 1 ≤ x ∧ x ≤ 60) ∧ 1 ≤ l.length ∧ l.length ≤ 9)) := by
  intro d
  induction d with
  | zero =>
    intro k i hi hk
    obtain ⟨m, rfl⟩ : ∃ m, k = m + 1 := ⟨k - 1, by omega⟩
    rw [impl_isRuler.l0, if_neg (by omega), List.drop_eq_nil_of_le (by omega)]
    simp only [List.not_mem_nil, false_implies, implies_true, true_and]
    split
    · congr 1
      exact decide_eq_decide.mpr ⟨fun x => by omega, fun x => by omega⟩
    · rw [decide_eq_false (by omega)]
  | succ d ih =>
    intro k i hi hk
    obtain ⟨m, rfl⟩ : ∃ m, k = m + 1 := ⟨k - 1, by omega⟩
    have hil : i < l.length := by omega
    rw [impl_isRuler.l0, if_pos (by omega), if_pos (by omega), if_pos (by omega), rd_at hil, wrap_nat (by omega), ih m (i + 1) (by omega) (by omega), List.drop_eq_getElem_cons hil]
    simp only [List.mem_cons, forall_eq_or_imp]
    split
    · next h => rw [decide_eq_false (fun x => by omega)]
    · next h =>
      split
      · next h => rw [decide_eq_false (fun x => by omega)]
      · next h1 => congr 1; exact decide_eq_decide.mpr ⟨fun x => ⟨⟨⟨by omega, by omega⟩, x.1⟩, x.2⟩, fun x => ⟨x.1.2, x.2⟩⟩
theorem impl_ruler (l : List Int) (hl : l.length ≤ 1048576) (k : Nat) (hk : l.length + 1 ≤ k) : impl_isRuler.f k l = some (decide (isRuler l)) :=
  impl_ruler_l l hl l.length k 0 (by omega) (by omega)
theorem spec_ruler_l (l : List Int) (hl : l.length ≤ 1048576) : ∀ (d k i : Nat), i + d = l.length → d + 1 ≤ k →
    spec_l5Ruler.l0 k l (i : Int) = some (decide ((∀ x ∈ l.drop i, 1 ≤ x ∧ x ≤ 60) ∧ 1 ≤ l.length ∧ l.length ≤ 9)) := by
  intro d
  induction d with
  | zero =>
    intro k i hi hk
    obtain ⟨m, rfl⟩ : ∃ m, k = m + 1 := ⟨k - 1, by omega⟩
    rw [spec_l5Ruler.l0, if_neg (by omega), spec_in, List.drop_eq_nil_of_le (by omega)]
    simp only [Option.bind_some, List.not_mem_nil, false_implies, implies_true, true_and]
    congr 1
    exact decide_eq_decide.mpr ⟨fun x => by omega, fun x => by omega⟩
  | succ d ih =>
    intro k i hi hk
    obtain ⟨m, rfl⟩ : ∃ m, k = m + 1 := ⟨k - 1, by omega⟩
    have hil : i < l.length := by omega
    rw [spec_l5Ruler.l0, if_pos (by omega), if_pos (by omega), rd_at hil, spec_in, wrap_nat (by omega), ih m (i + 1) (by omega) (by omega), List.drop_eq_getElem_cons hil]
    simp only [Option.bind_some, decide_eq_true_eq, List.mem_cons, forall_eq_or_imp]
    split
    · next h => congr 1; exact decide_eq_decide.mpr ⟨fun x => ⟨⟨h, x.1⟩, x.2⟩, fun x => ⟨x.1.2, x.2⟩⟩
    · next h => rw [decide_eq_false (fun x => h x.1.1)]
theorem spec_ruler (l : List Int) (hl : l.length ≤ 1048576) (k : Nat) (hk : l.length + 1 ≤ k) : spec_l5Ruler.f k l = some (decide (isRuler l)) :=
  spec_ruler_l l hl l.length k 0 (by omega) (by omega)
/-- Where one goes along a ruler: at the place, at the least place, at the greatest. -/
def steps : List Int → List Bool → Int × Int × Int → Int × Int × Int
  | x :: l, b :: bs, e => steps l bs (if b = true then e.1 - x else e.1 + x, mn e.2.1 (if b = true then e.1 - x else e.1 + x), mx e.2.2 (if b = true then e.1 - x else e.1 + x))
  | _, _, e => e
/-- The number that bits tell, the first of them being the greatest. -/
def maskTo (bs : List Bool) : Nat → Nat
  | 0 => 0
  | i + 1 => 2 * maskTo bs i + if bs[i]? = some true then 1 else 0
theorem maskTo_lt (bs : List Bool) : ∀ i, maskTo bs i < 2 ^ i
  | 0 => by simp [maskTo]
  | i + 1 => by
    have := maskTo_lt bs i
    rw [maskTo, Nat.pow_succ]
    split <;> omega
theorem maskTo_div (bs : List Bool) : ∀ d i, maskTo bs (i + d) / 2 ^ d = maskTo bs i
  | 0, i => by simp
  | d + 1, i => by
    rw [Nat.pow_succ, Nat.mul_comm, ← Nat.div_div_eq_div_mul, show i + (d + 1) = (i + d) + 1 by omega, maskTo]
    rw [show (2 * maskTo bs (i + d) + if bs[i + d]? = some true then 1 else 0) / 2 = maskTo bs (i + d) by split <;> omega]
    exact maskTo_div bs d i
theorem maskTo_bit (bs : List Bool) (i : Nat) : maskTo bs (i + 1) % 2 = if bs[i]? = some true then 1 else 0 := by
  rw [maskTo]
  split <;> omega
theorem mn_mx_in (a b : Int) : (mn a b = a ∨ mn a b = b) ∧ (mx a b = a ∨ mx a b = b) := by
  unfold mn mx
  constructor <;> split <;> simp
theorem steps_in : ∀ (l : List Int) (bs : List Bool) (p lo hi : Int) (B : Int), (∀ x ∈ l, 1 ≤ x ∧ x ≤ 60) → -B ≤ p → p ≤ B → -B ≤ lo → lo ≤ B → -B ≤ hi → hi ≤ B →
    -(B + 60 * l.length) ≤ (steps l bs (p, lo, hi)).2.1 ∧ (steps l bs (p, lo, hi)).2.1 ≤ B + 60 * l.length ∧ -(B + 60 * l.length) ≤ (steps l bs (p, lo, hi)).2.2 ∧ (steps l bs (p, lo, hi)).2.2 ≤ B + 60 * l.length
  | [], bs, p, lo, hi, B, _, _, _, _, _, _, _ => by unfold steps; simp; omega
  | x :: l, [], p, lo, hi, B, _, _, _, _, _, _, _ => by unfold steps; simp only [List.length_cons]; omega
  | x :: l, b :: bs, p, lo, hi, B, h, h1, h2, h3, h4, h5, h6 => by
    have hx := h x List.mem_cons_self
    have key := fun p' lo' hi' => steps_in l bs p' lo' hi' (B + 60) (fun y hy => h y (List.mem_cons_of_mem _ hy))
    unfold steps
    simp only [List.length_cons]
    have e := mn_mx_in lo (if b = true then p - x else p + x)
    have e' := mn_mx_in hi (if b = true then p - x else p + x)
    have hp : -(B + 60) ≤ (if b = true then p - x else p + x) ∧ (if b = true then p - x else p + x) ≤ B + 60 := by split <;> omega
    generalize (if b = true then p - x else p + x) = q at *
    have := key q (mn lo q) (mx hi q) (by omega) (by omega) (by omega) (by omega) (by omega) (by omega)
    omega
theorem ends5_l (l : List Int) (bs : List Bool) (hr : isRuler l) (hb : bs.length = l.length) : ∀ (d k i : Nat) (p lo hi : Int), i + d = l.length → d + 1 ≤ k → -60 * i ≤ p → p ≤ 60 * i →
    spec_l5Ends.l0 k l ((maskTo bs l.length : Nat) : Int) p lo hi (i : Int) = some (steps (l.drop i) (bs.drop i) (p, lo, hi)) := by
  intro d
  induction d with
  | zero =>
    intro k i p lo hi hi' hk h1 h2
    obtain ⟨m, rfl⟩ : ∃ m, k = m + 1 := ⟨k - 1, by omega⟩
    rw [spec_l5Ends.l0, if_neg (by omega), List.drop_eq_nil_of_le (by omega)]
    rfl
  | succ d ih =>
    intro k i p lo hi hi' hk h1 h2
    obtain ⟨m, rfl⟩ : ∃ m, k = m + 1 := ⟨k - 1, by omega⟩
    have hil : i < l.length := by omega
    obtain ⟨r1, r2, r3⟩ := hr
    have hx := r1 l[i] (List.getElem_mem hil)
    have w1 : wrap64 ((l.length : Int) - 1) = (l.length : Int) - 1 := by unfold wrap64; omega
    have w2 : wrap64 ((l.length : Int) - 1 - i) = (d : Int) := by unfold wrap64; omega
    have w3 : wrap64 (p - l[i]) = p - l[i] := by unfold wrap64; omega
    have w4 : wrap64 (p + l[i]) = p + l[i] := by unfold wrap64; omega
    have hM := maskTo_lt bs l.length
    have hM2 : maskTo bs l.length < 512 := Nat.lt_of_lt_of_le hM (Nat.pow_le_pow_right (by omega) r3 : 2 ^ l.length ≤ 2 ^ 9)
    have hsh : shr .i64 ((maskTo bs l.length : Nat) : Int) (d : Int) = ((maskTo bs (i + 1) : Nat) : Int) := by
      unfold shr
      rw [Int.toNat_natCast, show min d (IntKind.i64.bits) = d by simp only [IntKind.bits]; omega]
      rw [← maskTo_div bs d (i + 1), show i + 1 + d = l.length by omega]
      norm_cast
    have hM3 : maskTo bs (i + 1) < 4611686018427387904 := by
      have := maskTo_div bs d (i + 1)
      rw [show i + 1 + d = l.length by omega] at this
      have := Nat.div_le_self (maskTo bs l.length) (2 ^ d)
      omega
    have hbi : i < bs.length := by omega
    rw [spec_l5Ends.l0, if_pos (by omega), w1, w2, if_pos (by omega), hsh, and_one _ hM3, maskTo_bit, rd_at hil, w3, w4, wrap_nat (by omega), List.drop_eq_getElem_cons hil, List.drop_eq_getElem_cons hbi, List.getElem?_eq_getElem hbi]
    cases hbb : bs[i] with
    | true =>
      rw [if_pos rfl, if_pos (by omega), ih m (i + 1) _ _ _ (by omega) (by omega) (by omega) (by omega)]
      rfl
    | false =>
      rw [if_neg (by decide), if_pos (by omega), ih m (i + 1) _ _ _ (by omega) (by omega) (by omega) (by omega)]
      rfl
theorem ends5 (l : List Int) (bs : List Bool) (hr : isRuler l) (hb : bs.length = l.length) (k : Nat) (hk : l.length + 1 ≤ k) :
    spec_l5Ends.f k l ((maskTo bs l.length : Nat) : Int) = some (steps l bs (0, 0, 0)) :=
  ends5_l l bs hr hb l.length k 0 0 0 0 (by omega) (by omega) (by omega) (by omega)
theorem ssum_l (l : List Int) (hl : l.length ≤ 100) (hx : ∀ x ∈ l, 1 ≤ x ∧ x ≤ 60) : ∀ (d k i : Nat) (s : Int), i + d = l.length → d + 1 ≤ k → 0 ≤ s → s ≤ 60 * i →
    spec_l1Sum.l0 k l s (i : Int) = some (s + (l.drop i).sum) := by
  intro d
  induction d with
  | zero =>
    intro k i s hi hk h0 h1
    obtain ⟨m, rfl⟩ : ∃ m, k = m + 1 := ⟨k - 1, by omega⟩
    rw [spec_l1Sum.l0, if_neg (by omega), List.drop_eq_nil_of_le (by omega)]
    simp
  | succ d ih =>
    intro k i s hi hk h0 h1
    obtain ⟨m, rfl⟩ : ∃ m, k = m + 1 := ⟨k - 1, by omega⟩
    have hil : i < l.length := by omega
    have hx := hx l[i] (List.getElem_mem hil)
    have w : wrap64 (s + l[i]) = s + l[i] := by unfold wrap64; omega
    rw [spec_l1Sum.l0, if_pos (by omega), if_pos (by omega), rd_at hil, w, wrap_nat (by omega), ih m (i + 1) _ (by omega) (by omega) (by omega) (by omega), List.drop_eq_getElem_cons hil, List.sum_cons]
    congr 1
    omega
theorem ssum_tells (l : List Int) (hl : l.length ≤ 100) (hx : ∀ x ∈ l, 1 ≤ x ∧ x ≤ 60) (k : Nat) (hk : l.length + 1 ≤ k) : spec_l1Sum.f k l = some l.sum := by
  have := ssum_l l hl hx l.length k 0 0 (by omega) hk (by omega) (by omega)
  unfold spec_l1Sum.f
  rw [show ((0 : Nat) : Int) = 0 from rfl] at this
  rw [this]
  simp
/-- Bytes as bits: 'l' and 'r'. -/
def LRfrom (s : ByteArray) (i : Nat) : Prop := ∀ j : Nat, j < s.size → i ≤ j → bt s (j : Int) = 108 ∨ bt s (j : Int) = 114
instance (s : ByteArray) (i : Nat) : Decidable (LRfrom s i) := by unfold LRfrom; infer_instance
theorem LR_step {s : ByteArray} {i : Nat} (h : i < s.size) : LRfrom s i ↔ (bt s (i : Int) = 108 ∨ bt s (i : Int) = 114) ∧ LRfrom s (i + 1) := by
  unfold LRfrom
  constructor
  · exact fun x => ⟨x i h (Nat.le_refl _), fun j hj h1 => x j hj (by omega)⟩
  · intro x j hj h1
    by_cases hij : j = i
    · subst hij; exact x.1
    · exact x.2 j hj (by omega)
theorem LR_end {s : ByteArray} {i : Nat} (h : s.size ≤ i) : LRfrom s i := fun j h1 h2 => by omega
def bitsOf (s : ByteArray) : List Bool := s.data.toList.map fun c => c.toNat == 108
theorem bitsOf_length (s : ByteArray) : (bitsOf s).length = s.size := by simp [bitsOf]
theorem bitsOf_at (s : ByteArray) (i : Nat) (h : i < s.size) : (bitsOf s)[i]? = some (decide (bt s (i : Int) = 108)) := by
  unfold bitsOf bt
  rw [dif_pos (by simpa using h)]
  have hl : i < s.data.toList.length := by simpa using h
  rw [List.getElem?_map, List.getElem?_eq_getElem hl]
  simp only [Option.map_some, Option.some.injEq, Int.toNat_natCast]
  apply Bool.eq_iff_iff.mpr
  rw [beq_iff_eq, decide_eq_true_eq]
  have : s.data.toList[i] = s[i]'h := by simp [ByteArray.getElem_eq_getElem_data]
  rw [this]
  omega
def spanOf (l : List Int) (s : ByteArray) : Int × Bool :=
  if isRuler l ∧ s.size = l.length ∧ LRfrom s 0 then ((steps l (bitsOf s) (0, 0, 0)).2.2 - (steps l (bitsOf s) (0, 0, 0)).2.1, true) else (0, false)
theorem span_wrap {l : List Int} {bs : List Bool} (hr : isRuler l) : wrap64 ((steps l bs (0, 0, 0)).2.2 - (steps l bs (0, 0, 0)).2.1) = (steps l bs (0, 0, 0)).2.2 - (steps l bs (0, 0, 0)).2.1 := by
  have := steps_in l bs 0 0 0 0 hr.1 (by omega) (by omega) (by omega) (by omega) (by omega) (by omega)
  have := hr.2.2
  unfold wrap64
  omega
/-! ### foldings -/
def bitsN (n m : Nat) : List Bool := (List.range n).map fun i => decide (m / 2 ^ (n - 1 - i) % 2 = 1)
theorem bitsN_length (n m : Nat) : (bitsN n m).length = n := by simp [bitsN]
theorem bitsN_at (n m i : Nat) (h : i < n) : (bitsN n m)[i]? = some (decide (m / 2 ^ (n - 1 - i) % 2 = 1)) := by
  simp [bitsN, h]
theorem maskTo_bitsN (n m : Nat) (hm : m < 2 ^ n) : ∀ i, i ≤ n → maskTo (bitsN n m) i = m / 2 ^ (n - i)
  | 0, _ => by rw [maskTo, Nat.sub_zero, Nat.div_eq_of_lt hm]
  | i + 1, h => by
    rw [maskTo, maskTo_bitsN n m hm i (by omega), bitsN_at n m i (by omega), show n - i = (n - (i + 1)) + 1 by omega, Nat.pow_succ, ← Nat.div_div_eq_div_mul, show n - 1 - i = n - (i + 1) by omega]
    generalize m / 2 ^ (n - (i + 1)) = q
    simp only [Option.some.injEq, decide_eq_true_eq]
    split <;> omega
theorem maskTo_bitsN_all (n m : Nat) (hm : m < 2 ^ n) : maskTo (bitsN n m) n = m := by
  rw [maskTo_bitsN n m hm n (Nat.le_refl _), Nat.sub_self, Nat.pow_zero, Nat.div_one]
def textN (bs : List Bool) : List Int := bs.map fun b => if b = true then 108 else 114
theorem textN_length (bs : List Bool) : (textN bs).length = bs.length := by simp [textN]
/-- The span of a folding. -/
def spN (l : List Int) (m : Nat) : Int := (steps l (bitsN l.length m) (0, 0, 0)).2.2 - (steps l (bitsN l.length m) (0, 0, 0)).2.1
theorem fold1_l (l : List Int) (bs : List Bool) (hr : isRuler l) (hb : bs.length = l.length) : ∀ (d k i : Nat) (p lo hi : Int), i + d = l.length → d + 1 ≤ k → -60 * i ≤ p → p ≤ 60 * i →
    impl_foldings.l1 k l ((maskTo bs l.length : Nat) : Int) (textN (bs.take i)) p lo hi (i : Int) = some (textN bs, steps (l.drop i) (bs.drop i) (p, lo, hi)) := by
  intro d
  induction d with
  | zero =>
    intro k i p lo hi hi' hk h1 h2
    obtain ⟨m, rfl⟩ : ∃ m, k = m + 1 := ⟨k - 1, by omega⟩
    rw [impl_foldings.l1, if_neg (by omega), List.drop_eq_nil_of_le (by omega), List.take_of_length_le (by omega)]
    rfl
  | succ d ih =>
    intro k i p lo hi hi' hk h1 h2
    obtain ⟨m, rfl⟩ : ∃ m, k = m + 1 := ⟨k - 1, by omega⟩
    have hil : i < l.length := by omega
    obtain ⟨r1, r2, r3⟩ := hr
    have hx := r1 l[i] (List.getElem_mem hil)
    have w1 : wrap64 ((l.length : Int) - 1) = (l.length : Int) - 1 := by unfold wrap64; omega
    have w2 : wrap64 ((l.length : Int) - 1 - i) = (d : Int) := by unfold wrap64; omega
    have w3 : wrap64 (p - l[i]) = p - l[i] := by unfold wrap64; omega
    have w4 : wrap64 (p + l[i]) = p + l[i] := by unfold wrap64; omega
    have hM := maskTo_lt bs l.length
    have hM2 : maskTo bs l.length < 512 := Nat.lt_of_lt_of_le hM (Nat.pow_le_pow_right (by omega) r3 : 2 ^ l.length ≤ 2 ^ 9)
    have hsh : shr .i64 ((maskTo bs l.length : Nat) : Int) (d : Int) = ((maskTo bs (i + 1) : Nat) : Int) := by
      unfold shr
      rw [Int.toNat_natCast, show min d (IntKind.i64.bits) = d by simp only [IntKind.bits]; omega]
      rw [← maskTo_div bs d (i + 1), show i + 1 + d = l.length by omega]
      norm_cast
    have hM3 : maskTo bs (i + 1) < 4611686018427387904 := by
      have := maskTo_div bs d (i + 1)
      rw [show i + 1 + d = l.length by omega] at this
      have := Nat.div_le_self (maskTo bs l.length) (2 ^ d)
      omega
    have hbi : i < bs.length := by omega
    have ht : (textN (bs.take i)).length < 1000 := by rw [textN_length, List.length_take]; omega
    have htk : textN (bs.take (i + 1)) = textN (bs.take i) ++ [if bs[i] = true then 108 else 114] := by
      unfold textN
      rw [List.take_succ_eq_append_getElem hbi, List.map_append]
      rfl
    rw [impl_foldings.l1, if_pos (by omega), if_pos (by omega), w1, w2, if_pos (by omega), if_pos ht, hsh, and_one _ hM3, maskTo_bit, rd_at hil, w3, w4, wrap_nat (by omega), List.drop_eq_getElem_cons hil, List.drop_eq_getElem_cons hbi, List.getElem?_eq_getElem hbi]
    cases hbb : bs[i] with
    | true =>
      rw [hbb, if_pos rfl] at htk
      rw [if_neg (by decide), ← htk, ih m (i + 1) _ _ _ (by omega) (by omega) (by omega) (by omega)]
      rfl
    | false =>
      rw [hbb, if_neg (by decide)] at htk
      rw [if_pos (by decide), ← htk, ih m (i + 1) _ _ _ (by omega) (by omega) (by omega) (by omega)]
      rfl
theorem fold1 (l : List Int) (hr : isRuler l) (m : Nat) (hm : m < 2 ^ l.length) (k : Nat) (hk : l.length + 1 ≤ k) :
    impl_foldings.l1 k l (m : Int) [] 0 0 0 0 = some (textN (bitsN l.length m), steps l (bitsN l.length m) (0, 0, 0)) := by
  have := fold1_l l (bitsN l.length m) hr (bitsN_length _ _) l.length k 0 0 0 0 (by omega) (by omega) (by omega) (by omega)
  rw [maskTo_bitsN_all _ _ hm] at this
  exact this
theorem pow9 {l : List Int} (hr : isRuler l) : 2 ^ l.length ≤ 512 := (Nat.pow_le_pow_right (by omega) hr.2.2 : 2 ^ l.length ≤ 2 ^ 9)
theorem shl_len {l : List Int} (hr : isRuler l) : shl .i64 1 (l.length : Int) = ((2 ^ l.length : Nat) : Int) := by
  have h9 := pow9 hr
  have hl := hr.2.2
  unfold shl
  rw [Int.toNat_natCast, show min l.length (IntKind.i64.bits) = l.length by simp only [IntKind.bits]; omega, Int.one_mul]
  have e : (2 : Int) ^ l.length = ((2 ^ l.length : Nat) : Int) := by norm_cast
  rw [e]
  generalize 2 ^ l.length = q at h9
  simp [IntKind.wrap, IntKind.bits, IntKind.signed]
  omega
theorem folds_l {S : Type} (step : S → ByteArray → Int → Int → Option S) (l : List Int) (hr : isRuler l) (Inv : Nat → S → Prop)
    (hstep : ∀ m s, m < 2 ^ l.length → Inv m s → ∃ s', step s (strOfNums (textN (bitsN l.length m))) (steps l (bitsN l.length m) (0, 0, 0)).1 (spN l m) = some s' ∧ Inv (m + 1) s') :
    ∀ (d k m : Nat) (s : S), m + d = 2 ^ l.length → d + l.length + 2 ≤ k → Inv m s → ∃ s', impl_foldings.l0 step k l ((2 ^ l.length : Nat) : Int) s (m : Int) = some s' ∧ Inv (2 ^ l.length) s' := by
  have h9 := pow9 hr
  intro d
  induction d with
  | zero =>
    intro k m s hm hk hi
    obtain ⟨j, rfl⟩ : ∃ j, k = j + 1 := ⟨k - 1, by omega⟩
    have : m = 2 ^ l.length := by omega
    subst this
    rw [impl_foldings.l0, if_neg (by omega)]
    exact ⟨s, rfl, hi⟩
  | succ d ih =>
    intro k m s hm hk hi
    obtain ⟨j, rfl⟩ : ∃ j, k = j + 1 := ⟨k - 1, by omega⟩
    obtain ⟨s', h1, h2⟩ := hstep m s (by omega) hi
    rw [impl_foldings.l0, if_pos (by omega), fold1 l hr m (by omega) j (by omega)]
    simp only [Option.bind_some]
    rw [span_wrap hr]
    unfold spN at h1
    rw [h1]
    simp only [Option.bind_some]
    rw [wrap_nat (by omega)]
    exact ih j (m + 1) s' (by omega) (by omega) h2
theorem folds {S : Type} (step : S → ByteArray → Int → Int → Option S) (l : List Int) (hr : isRuler l) (Inv : Nat → S → Prop)
    (hstep : ∀ m s, m < 2 ^ l.length → Inv m s → ∃ s', step s (strOfNums (textN (bitsN l.length m))) (steps l (bitsN l.length m) (0, 0, 0)).1 (spN l m) = some s' ∧ Inv (m + 1) s')
    (k : Nat) (hk : 2 ^ l.length + l.length + 2 ≤ k) (s : S) (hs : Inv 0 s) : ∃ s', impl_foldings.f step k l s = some s' ∧ Inv (2 ^ l.length) s' := by
  unfold impl_foldings.f
  rw [shl_len hr]
  exact folds_l step l hr Inv hstep (2 ^ l.length) k 0 s (by omega) hk hs
/-! ### lists that go up -/
def up (xs : List Int) : Prop := xs.Pairwise (fun a b => a < b)
theorem up_unique : ∀ (xs ys : List Int), up xs → up ys → (∀ x, x ∈ xs ↔ x ∈ ys) → xs = ys
  | [], [], _, _, _ => rfl
  | [], y :: ys, _, _, h => absurd ((h y).mpr List.mem_cons_self) (by simp)
  | x :: xs, [], _, _, h => absurd ((h x).mp List.mem_cons_self) (by simp)
  | x :: xs, y :: ys, hx, hy, h => by
    unfold up at hx hy
    rw [List.pairwise_cons] at hx hy
    have hxy : x = y := by
      rcases List.mem_cons.mp ((h x).mp List.mem_cons_self) with e | e
      · exact e
      · rcases List.mem_cons.mp ((h y).mpr List.mem_cons_self) with e' | e'
        · exact e'.symm
        · have h1 := hy.1 x e
          have h2 := hx.1 y e'
          omega
    subst hxy
    congr 1
    refine up_unique xs ys hx.2 hy.2 (fun z => ⟨fun hz => ?_, fun hz => ?_⟩)
    · rcases List.mem_cons.mp ((h z).mp (List.mem_cons_of_mem _ hz)) with e | e
      · have := hx.1 z hz
        omega
      · exact e
    · rcases List.mem_cons.mp ((h z).mpr (List.mem_cons_of_mem _ hz)) with e | e
      · have := hy.1 z hz
        omega
      · exact e
theorem compact_l (d : Array Int) (hs : ∀ i j, i ≤ j → j < d.size → d[i]! ≤ d[j]!) : ∀ m, m ≤ d.size → up (Lib.compactUpTo d m) ∧ (∀ x, x ∈ Lib.compactUpTo d m ↔ ∃ j, j < m ∧ d[j]! = x)
  | 0, _ => by
    refine ⟨by simp [up, Lib.compactUpTo], fun x => ?_⟩
    simp [Lib.compactUpTo]
  | m + 1, h => by
    obtain ⟨h1, h2⟩ := compact_l d hs m (by omega)
    rw [Lib.compactUpTo_succ]
    by_cases hk : Lib.keeps d m = true
    · rw [if_pos hk]
      refine ⟨?_, fun x => ?_⟩
      · unfold up at h1 ⊢
        rw [List.pairwise_append]
        refine ⟨h1, List.pairwise_singleton _ _, ?_⟩
        intro a ha b hb
        obtain rfl : b = d[m]! := by simpa using hb
        obtain ⟨j, hj, rfl⟩ := (h2 a).mp ha
        have h3 : m = 0 ∨ d[m]! ≠ d[m - 1]! := by simpa [Lib.keeps] using hk
        have h4 := hs j (m - 1) (by omega) (by omega)
        have h5 := hs (m - 1) m (by omega) (by omega)
        omega
      · rw [List.mem_append, h2]
        constructor
        · rintro (⟨j, hj, e⟩ | hx)
          · exact ⟨j, by omega, e⟩
          · exact ⟨m, by omega, (by simpa using hx : x = d[m]!).symm⟩
        · rintro ⟨j, hj, e⟩
          by_cases hjm : j = m
          · subst hjm
            exact .inr (by simp [e])
          · exact .inl ⟨j, by omega, e⟩
    · rw [if_neg hk, List.append_nil]
      have h3 : ¬ m = 0 ∧ d[m]! = d[m - 1]! := by simpa [Lib.keeps] using hk
      refine ⟨h1, fun x => ?_⟩
      rw [h2]
      constructor
      · rintro ⟨j, hj, e⟩
        exact ⟨j, by omega, e⟩
      · rintro ⟨j, hj, e⟩
        by_cases hjm : j = m
        · subst hjm
          exact ⟨j - 1, by omega, by rw [← h3.2, e]⟩
        · exact ⟨j, by omega, e⟩
theorem compact_up (zs : List Int) (hs : zs.Pairwise (fun a b => a ≤ b)) : up (Lib.compact zs) ∧ ∀ x, x ∈ Lib.compact zs ↔ x ∈ zs := by
  have hd : ∀ i (h : i < zs.length), zs.toArray[i]! = zs[i] := fun i h => by simp [h]
  obtain ⟨h1, h2⟩ := compact_l zs.toArray (fun i j hij hj => by
    have hj' : j < zs.length := by simpa using hj
    rw [hd i (by omega), hd j hj']
    by_cases e : i = j
    · subst e
      exact Int.le_refl _
    · exact (List.pairwise_iff_getElem.mp hs) i j (by omega) hj' (by omega)) zs.length (by simp)
  refine ⟨h1, fun x => ?_⟩
  unfold Lib.compact
  rw [h2]
  constructor
  · rintro ⟨j, hj, rfl⟩
    rw [hd j hj]
    exact List.getElem_mem hj
  · intro hx
    obtain ⟨j, hj, rfl⟩ := List.getElem_of_mem hx
    exact ⟨j, hj, hd j hj⟩
theorem sorted_up (s : List Int) : up (Lib.compact (s.mergeSort (fun x y => decide (x ≤ y)))) ∧ ∀ x, x ∈ Lib.compact (s.mergeSort (fun x y => decide (x ≤ y))) ↔ x ∈ s := by
  have h := List.pairwise_mergeSort (le := fun x y : Int => decide (x ≤ y)) (fun a b c h1 h2 => by simp only [decide_eq_true_eq] at *; omega) (fun a b => by simp only [Bool.or_eq_true, decide_eq_true_eq]; omega) s
  have h' : (s.mergeSort (fun x y => decide (x ≤ y))).Pairwise (fun a b => a ≤ b) := h.imp (fun h => by simpa using h)
  obtain ⟨h1, h2⟩ := compact_up _ h'
  exact ⟨h1, fun x => by rw [h2, List.mem_mergeSort]⟩
/-! ### where the last stick may end -/
def endN (l : List Int) (m : Nat) : Int := (steps l (bitsN l.length m) (0, 0, 0)).1
theorem steps_sum : ∀ (l : List Int) (bs : List Bool) (p lo hi : Int), (∀ x ∈ l, 1 ≤ x ∧ x ≤ 60) → p - l.sum ≤ (steps l bs (p, lo, hi)).1 ∧ (steps l bs (p, lo, hi)).1 ≤ p + l.sum
  | [], bs, p, lo, hi, _ => by unfold steps; simp
  | x :: l, [], p, lo, hi, h => by
    have h1 : ∀ l : List Int, (∀ x ∈ l, 1 ≤ x ∧ x ≤ 60) → 0 ≤ l.sum := by
      intro l
      induction l with
      | nil => intro _; simp
      | cons y r ih =>
        intro h
        have := ih (fun z hz => h z (List.mem_cons_of_mem _ hz))
        have := h y List.mem_cons_self
        rw [List.sum_cons]
        omega
    have := h1 _ h
    unfold steps
    simp only
    omega
  | x :: l, b :: bs, p, lo, hi, h => by
    have hx := h x List.mem_cons_self
    have key := fun p' lo' hi' => steps_sum l bs p' lo' hi' (fun y hy => h y (List.mem_cons_of_mem _ hy))
    unfold steps
    rw [List.sum_cons]
    simp only
    generalize hq : (if b = true then p - x else p + x) = q
    have := key q (mn lo q) (mx hi q)
    have hqq : p - x ≤ q ∧ q ≤ p + x := by rw [← hq]; split <;> omega
    omega
theorem steps_right : ∀ (l : List Int) (n : Nat) (p lo hi : Int), n = l.length → (steps l (List.replicate n false) (p, lo, hi)).1 = p + l.sum
  | [], n, p, lo, hi, h => by subst h; unfold steps; simp
  | x :: l, n, p, lo, hi, h => by
    subst h
    rw [List.length_cons, List.replicate_succ]
    unfold steps
    rw [List.sum_cons]
    simp only [Bool.false_eq_true, if_false]
    rw [steps_right l _ _ _ _ rfl]
    omega
theorem bits_zero (n : Nat) : bitsN n 0 = List.replicate n false := by
  apply List.ext_getElem?
  intro i
  by_cases h : i < n
  · rw [bitsN_at n 0 i h, List.getElem?_replicate, if_pos h]
    simp
  · rw [List.getElem?_eq_none (by rw [bitsN_length]; omega), List.getElem?_eq_none (by simp; omega)]
theorem end_zero (l : List Int) : endN l 0 = l.sum := by
  unfold endN
  rw [bits_zero, steps_right l _ _ _ _ rfl]
  omega
theorem end_in {l : List Int} (hr : isRuler l) (m : Nat) : -l.sum ≤ endN l m ∧ endN l m ≤ l.sum := by
  have := steps_sum l (bitsN l.length m) 0 0 0 hr.1
  unfold endN
  omega
theorem sum_low : ∀ (l : List Int), (∀ x ∈ l, 1 ≤ x ∧ x ≤ 60) → (l.length : Int) ≤ l.sum ∧ l.sum ≤ 60 * l.length
  | [], _ => by simp
  | x :: l, hx => by
    have := sum_low l (fun z hz => hx z (List.mem_cons_of_mem _ hz))
    have := hx x List.mem_cons_self
    simp only [List.length_cons, List.sum_cons]
    omega
def endsTo (l : List Int) (m : Nat) : List Int := ((List.range m).map (endN l)).filter (fun x => decide (0 ≤ x))
theorem endsTo_succ (l : List Int) (m : Nat) : endsTo l (m + 1) = endsTo l m ++ (if 0 ≤ endN l m then [endN l m] else []) := by
  unfold endsTo
  rw [List.range_succ, List.map_append, List.filter_append]
  congr 1
  by_cases h : 0 ≤ endN l m <;> simp [h]
theorem endsTo_len (l : List Int) (m : Nat) : (endsTo l m).length ≤ m := by
  unfold endsTo
  have := List.length_filter_le (fun x => decide ((0 : Int) ≤ x)) ((List.range m).map (endN l))
  rw [List.length_map, List.length_range] at this
  exact this
theorem endsTo_mem (l : List Int) (m : Nat) (x : Int) : x ∈ endsTo l m ↔ 0 ≤ x ∧ ∃ j, j < m ∧ endN l j = x := by
  unfold endsTo
  rw [List.mem_filter, List.mem_map]
  simp only [List.mem_range, decide_eq_true_eq]
  exact ⟨fun h => ⟨h.2, h.1⟩, fun h => ⟨h.2, h.1⟩⟩
def endsOf (l : List Int) : List Int := Lib.compact ((endsTo l (2 ^ l.length)).mergeSort (fun x y => decide (x ≤ y)))
theorem ends_mem (l : List Int) (x : Int) : x ∈ endsOf l ↔ 0 ≤ x ∧ ∃ j, j < 2 ^ l.length ∧ endN l j = x := by
  unfold endsOf
  rw [(sorted_up _).2, endsTo_mem]
theorem ends_in {l : List Int} (hr : isRuler l) : ∀ x ∈ endsOf l, 0 ≤ x ∧ x ≤ 540 := by
  intro x hx
  obtain ⟨h1, j, _, rfl⟩ := (ends_mem l x).mp hx
  have := end_in hr j
  have := sum_low l hr.1
  have := hr.2.2
  omega
theorem ends_len {l : List Int} (hr : isRuler l) : 1 ≤ (endsOf l).length ∧ (endsOf l).length ≤ 512 := by
  have h9 := pow9 hr
  have h1 := Lib.compact_length_le ((endsTo l (2 ^ l.length)).mergeSort (fun x y => decide (x ≤ y)))
  have h2 := endsTo_len l (2 ^ l.length)
  rw [List.length_mergeSort] at h1
  refine ⟨?_, by unfold endsOf; omega⟩
  have hs := sum_low l hr.1
  have hmem : l.sum ∈ endsOf l := (ends_mem l l.sum).mpr ⟨by omega, 0, Nat.pow_pos (by omega), end_zero l⟩
  exact List.length_pos_of_mem hmem
theorem ends_impl (l : List Int) (hl : l.length ≤ 1048576) (k : Nat) (hk : 2 ^ l.length + l.length + 2 ≤ k ∨ ¬ isRuler l ∧ l.length + 1 ≤ k) : impl_FoldEnds.f k l = some (if isRuler l then (endsOf l, true) else ([], false)) := by
  unfold impl_FoldEnds.f
  rw [impl_ruler l hl k (by
    rcases hk with h | h
    · have := Nat.pow_pos (n := l.length) (show 0 < 2 by omega)
      omega
    · exact h.2)]
  simp only [Option.bind_some, decide_eq_true_eq]
  by_cases hr : isRuler l
  · rw [if_pos hr, if_pos hr]
    have h9 := pow9 hr
    have hk := hk.resolve_right (fun h => h.1 hr)
    obtain ⟨s, h1, h2⟩ := folds impl_FoldEnds.step l hr (fun m s => s = endsTo l m) (fun m s hm hs => by
      subst hs
      have h3 := endsTo_len l m
      rw [endsTo_succ]
      unfold impl_FoldEnds.step
      show ∃ s', (if 0 ≤ endN l m then _ else _) = some s' ∧ _
      by_cases h : 0 ≤ endN l m
      · rw [if_pos h, if_pos (by omega), if_pos h]
        exact ⟨_, rfl, rfl⟩
      · rw [if_neg h, if_neg h, List.append_nil]
        exact ⟨_, rfl, rfl⟩) k (by omega) [] (by simp [endsTo])
    have h3 := endsTo_len l (2 ^ l.length)
    have hs := sum_low l hr.1
    have hpos : 0 < (endsTo l (2 ^ l.length)).length := List.length_pos_of_mem ((endsTo_mem l _ l.sum).mpr ⟨by omega, 0, Nat.pow_pos (by omega), end_zero l⟩)
    rw [h1, Option.bind_some, h2, if_pos (by omega)]
    rfl
  · rw [if_neg hr, if_neg hr]
def marks (l : List Int) (m : Nat) (n : Nat) : List Bool := (List.range n).map fun (x : Nat) => decide (∃ j, j < m ∧ endN l j = (x : Int))
theorem marks_len (l : List Int) (m n : Nat) : (marks l m n).length = n := by simp [marks]
theorem marks_set (l : List Int) (m n : Nat) (x : Nat) (hx : x < n) (h : endN l m = (x : Int)) : (marks l m n).set x true = marks l (m + 1) n := by
  apply List.ext_getElem?
  intro i
  by_cases hi : i < n
  · rw [List.getElem?_set]
    unfold marks
    simp only [List.length_map, List.length_range]
    by_cases e : x = i
    · subst e
      rw [if_pos rfl, if_pos hi, List.getElem?_map, List.getElem?_range hi]
      simp only [Option.map_some, Option.some.injEq]
      exact (decide_eq_true ⟨m, by omega, h⟩).symm
    · rw [if_neg e, List.getElem?_map, List.getElem?_map, List.getElem?_range hi]
      simp only [Option.map_some, Option.some.injEq]
      apply decide_eq_decide.mpr
      constructor
      · rintro ⟨j, hj, e2⟩
        exact ⟨j, by omega, e2⟩
      · rintro ⟨j, hj, e2⟩
        by_cases hjm : j = m
        · subst hjm
          omega
        · exact ⟨j, by omega, e2⟩
  · rw [List.getElem?_eq_none (by rw [List.length_set, marks_len]; omega), List.getElem?_eq_none (by rw [marks_len]; omega)]
theorem marks_skip (l : List Int) (m n : Nat) (h : endN l m < 0) : marks l (m + 1) n = marks l m n := by
  unfold marks
  apply List.map_congr_left
  intro x _
  apply decide_eq_decide.mpr
  constructor
  · rintro ⟨j, hj, e2⟩
    by_cases hjm : j = m
    · subst hjm
      omega
    · exact ⟨j, by omega, e2⟩
  · rintro ⟨j, hj, e2⟩
    exact ⟨j, by omega, e2⟩
theorem reached_l (l : List Int) (hr : isRuler l) (n : Nat) (hn : (n : Int) = l.sum + 1) : ∀ (d k m : Nat), m + d = 2 ^ l.length → d + l.length + 2 ≤ k →
    spec_l5Reached.l0 k l (marks l m n) (m : Int) = some (marks l (2 ^ l.length) n) := by
  have h9 := pow9 hr
  intro d
  induction d with
  | zero =>
    intro k m hm hk
    obtain ⟨j, rfl⟩ : ∃ j, k = j + 1 := ⟨k - 1, by omega⟩
    rw [spec_l5Reached.l0, shl_len hr, if_neg (by omega), show m = 2 ^ l.length by omega]
  | succ d ih =>
    intro k m hm hk
    obtain ⟨j, rfl⟩ : ∃ j, k = j + 1 := ⟨k - 1, by omega⟩
    have he := ends5 l (bitsN l.length m) hr (bitsN_length _ _) j (by omega)
    rw [maskTo_bitsN_all _ _ (by omega)] at he
    have hin := end_in hr m
    have h1 : (steps l (bitsN l.length m) (0, 0, 0)).1 = endN l m := rfl
    rw [spec_l5Reached.l0, shl_len hr, if_pos (by omega), he]
    simp only [Option.bind_some]
    rw [h1, wrap_nat (by omega)]
    by_cases h : 0 ≤ endN l m
    · obtain ⟨x, hx⟩ : ∃ x : Nat, endN l m = (x : Int) := ⟨(endN l m).toNat, by omega⟩
      rw [if_pos h, if_pos h, marks_len, if_pos (by omega), hx, Int.toNat_natCast, marks_set l m n x (by omega) hx]
      exact ih j (m + 1) (by omega) (by omega)
    · rw [if_neg h, ← marks_skip l m n (by omega)]
      exact ih j (m + 1) (by omega) (by omega)
theorem sends_l (l : List Int) (hr : isRuler l) (n : Nat) (hn : (n : Int) = l.sum + 1) (b : List Bool) (hb : b.length = n) : ∀ (d k i : Nat) (acc : List Int), i + d = n → d + 1 ≤ k → acc.length ≤ i →
    spec_FoldEnds.l0 k acc b (i : Int) = some (acc ++ ((List.range d).filter (fun x => (b.getD (i + x) false))).map (fun x : Nat => ((i + x : Nat) : Int)), true) := by
  have hs := sum_low l hr.1
  have h9 := hr.2.2
  intro d
  induction d with
  | zero =>
    intro k i acc hi hk ha
    obtain ⟨m, rfl⟩ : ∃ m, k = m + 1 := ⟨k - 1, by omega⟩
    rw [spec_FoldEnds.l0, if_neg (by omega)]
    simp
  | succ d ih =>
    intro k i acc hi hk ha
    obtain ⟨m, rfl⟩ : ∃ m, k = m + 1 := ⟨k - 1, by omega⟩
    have hr1 : rdOf false b (i : Int) = b.getD i false := rfl
    have hf : ∀ acc' : List Int, acc' ++ ((List.range d).filter (fun x => b.getD (i + 1 + x) false)).map (fun x : Nat => ((i + 1 + x : Nat) : Int)) = acc' ++ (((List.range d).map Nat.succ).filter (fun x => b.getD (i + x) false)).map (fun x : Nat => ((i + x : Nat) : Int)) := by
      intro acc'
      congr 1
      rw [List.filter_map, List.map_map]
      have e1 : (fun x => b.getD (i + 1 + x) false) = ((fun x => b.getD (i + x) false) ∘ Nat.succ) := by
        funext x
        show b.getD (i + 1 + x) false = b.getD (i + (x + 1)) false
        congr 1
        omega
      have e2 : (fun x : Nat => ((i + 1 + x : Nat) : Int)) = ((fun x : Nat => ((i + x : Nat) : Int)) ∘ Nat.succ) := by
        funext x
        show ((i + 1 + x : Nat) : Int) = ((i + (x + 1) : Nat) : Int)
        congr 1
        omega
      rw [e1, e2]
    rw [spec_FoldEnds.l0, if_pos (by omega), if_pos (by omega), hr1, wrap_nat (by omega), List.range_succ_eq_map, List.filter_cons]
    by_cases h : b.getD i false = true
    · rw [if_pos h, if_pos (by omega), if_pos (by simpa using h), ih m (i + 1) _ (by omega) (by omega) (by rw [List.length_append]; simp; omega), hf]
      simp
    · rw [if_neg h, if_neg (by simpa using h), ih m (i + 1) _ (by omega) (by omega) (by omega), hf]
theorem ends_spec (l : List Int) (hl : l.length ≤ 1048576) (k : Nat) (hk : 2 ^ l.length + l.length + 600 ≤ k ∨ ¬ isRuler l ∧ l.length + 1 ≤ k) : spec_FoldEnds.f k l = some (if isRuler l then (endsOf l, true) else ([], false)) := by
  unfold spec_FoldEnds.f
  rw [spec_ruler l hl k (by
    rcases hk with h | h
    · have := Nat.pow_pos (n := l.length) (show 0 < 2 by omega)
      omega
    · exact h.2)]
  simp only [Option.bind_some, decide_eq_true_eq]
  by_cases hr : isRuler l
  · rw [if_pos hr, if_pos hr]
    have h9 := pow9 hr
    have hs := sum_low l hr.1
    have h91 := hr.2
    have hk := hk.resolve_right (fun h => h.1 hr)
    have hpz := Nat.zero_le (2 ^ l.length)
    unfold spec_l5Reached.f
    rw [ssum_tells l (by omega) hr.1 k (by omega)]
    simp only [Option.bind_some]
    have hw : wrap64 (l.sum + 1) = l.sum + 1 := by unfold wrap64; omega
    obtain ⟨n, hn⟩ : ∃ n : Nat, (n : Int) = l.sum + 1 := ⟨(l.sum + 1).toNat, by omega⟩
    have h0 : marks l 0 n = List.replicate n false := by
      unfold marks
      apply List.ext_getElem?
      intro i
      by_cases hi : i < n
      · rw [List.getElem?_map, List.getElem?_range hi, List.getElem?_replicate, if_pos hi]
        simp
      · rw [List.getElem?_eq_none (by simp; omega), List.getElem?_eq_none (by simp; omega)]
    rw [hw, ← hn, if_pos (by omega), if_pos (by omega), Int.toNat_natCast, ← h0]
    have hre := reached_l l hr n hn (2 ^ l.length) k 0 (by omega) (by omega)
    rw [show ((0 : Nat) : Int) = 0 from rfl] at hre
    rw [hre, Option.bind_some]
    have hse := sends_l l hr n hn (marks l (2 ^ l.length) n) (marks_len _ _ _) n k 0 [] (by omega) (by omega) (by simp)
    rw [show ((0 : Nat) : Int) = 0 from rfl] at hse
    rw [hse, List.nil_append]
    congr 2
    apply up_unique
    · unfold up
      rw [List.pairwise_map]
      refine List.Pairwise.imp ?_ (List.Pairwise.filter _ List.pairwise_lt_range)
      intro a b hab
      omega
    · exact (sorted_up _).1
    · intro x
      rw [ends_mem, List.mem_map]
      constructor
      · rintro ⟨y, hy, rfl⟩
        rw [List.mem_filter, List.mem_range] at hy
        have hy2 := hy.2
        rw [Nat.zero_add] at hy2
        unfold marks at hy2
        rw [List.getD_eq_getElem?_getD, List.getElem?_map, List.getElem?_range hy.1] at hy2
        simp only [Option.map_some, Option.getD_some, decide_eq_true_eq] at hy2
        refine ⟨by omega, ?_⟩
        rw [Nat.zero_add]
        exact hy2
      · rintro ⟨hx, j, hj, e⟩
        have := end_in hr j
        refine ⟨x.toNat, ?_, by omega⟩
        rw [List.mem_filter, List.mem_range]
        have hxn : x.toNat < n := by omega
        refine ⟨hxn, ?_⟩
        unfold marks
        rw [Nat.zero_add, List.getD_eq_getElem?_getD, List.getElem?_map, List.getElem?_range hxn]
        simp only [Option.map_some, Option.getD_some, decide_eq_true_eq]
        exact ⟨j, hj, by omega⟩
  · rw [if_neg hr, if_neg hr]
/-- An end has the parity of the sum: so there are at most 271 of them. -/
theorem steps_parity : ∀ (l : List Int) (bs : List Bool) (p lo hi : Int), l.length ≤ bs.length → ((steps l bs (p, lo, hi)).1 - p - l.sum) % 2 = 0
  | [], bs, p, lo, hi, _ => by
    unfold steps
    simp
  | x :: l, [], p, lo, hi, h => by simp at h
  | x :: l, b :: bs, p, lo, hi, h => by
    have key := fun p' lo' hi' => steps_parity l bs p' lo' hi' (by simpa using h)
    unfold steps
    rw [List.sum_cons]
    simp only
    generalize hq : (if b = true then p - x else p + x) = q
    have := key q (mn lo q) (mx hi q)
    have hqq : q = p - x ∨ q = p + x := by rw [← hq]; split <;> simp
    omega
theorem up_spaced : ∀ (xs : List Int) (lo hi r : Int), up xs → (∀ x ∈ xs, lo ≤ x ∧ x ≤ hi ∧ x % 2 = r) → lo ≤ hi + 2 → 2 * (xs.length : Int) ≤ hi - lo + 2
  | [], lo, hi, r, _, _, h => by
    simp only [List.length_nil]
    omega
  | x :: xs, lo, hi, r, hu, hx, h => by
    unfold up at hu
    rw [List.pairwise_cons] at hu
    have h0 := hx x List.mem_cons_self
    have ih := up_spaced xs (x + 2) hi r hu.2 (fun y hy => by
      have h1 := hu.1 y hy
      have h2 := hx y (List.mem_cons_of_mem _ hy)
      omega) (by omega)
    rw [List.length_cons]
    omega
theorem ends_few {l : List Int} (hr : isRuler l) : (endsOf l).length ≤ 271 := by
  have hs := sum_low l hr.1
  have h9 := hr.2
  have h := up_spaced (endsOf l) 0 540 (l.sum % 2) (sorted_up _).1 (fun x hx => by
    have h1 := ends_in hr x hx
    obtain ⟨_, j, _, e⟩ := (ends_mem l x).mp hx
    have h2 := steps_parity l (bitsN l.length j) 0 0 0 (by rw [bitsN_length]; omega)
    have h3 : (steps l (bitsN l.length j) (0, 0, 0)).1 = x := e
    rw [h3] at h2
    omega) (by omega)
  omega
/-! ### a text, cut at a byte -/
def pieces (c : UInt8) : List UInt8 → List (List UInt8)
  | [] => [[]]
  | b :: r => if b = c then [] :: pieces c r else (match pieces c r with
    | [] => [[b]]
    | q :: qs => (b :: q) :: qs)
theorem pieces_ne (c : UInt8) : ∀ s, pieces c s ≠ []
  | [] => by simp [pieces]
  | b :: r => by
    unfold pieces
    split
    · simp
    · split <;> simp
theorem pieces_sep (c : UInt8) (r : List UInt8) : pieces c (c :: r) = [] :: pieces c r := by
  rw [pieces, if_pos rfl]
theorem pieces_head {b c : UInt8} (r : List UInt8) (hb : b ≠ c) : ∃ q qs, pieces c r = q :: qs ∧ pieces c (b :: r) = (b :: q) :: qs := by
  cases h : pieces c r with
  | nil => exact absurd h (pieces_ne c r)
  | cons q qs => exact ⟨q, qs, rfl, by rw [pieces, if_neg hb, h]⟩
theorem splitc_head {b c : UInt8} (hb : b ≠ c) (r : List UInt8) : ∀ k, ∃ q qs, Lib.splitK [c] 0 k r = q :: qs ∧ Lib.splitK [c] 0 k (b :: r) = (b :: q) :: qs
  | 0 => ⟨r, [], rfl, rfl⟩
  | k + 1 => by
    have hi : Lib.index (b :: r) [c] = if Lib.index r [c] == -1 then -1 else Lib.index r [c] + 1 := by
      rw [Lib.index, if_neg (by simp [List.isPrefixOf]; exact fun h => hb h.symm)]
    unfold Lib.splitK
    by_cases h : Lib.index r [c] = -1
    · rw [hi, h]
      exact ⟨r, [], by simp, by simp⟩
    · have hge : -1 ≤ Lib.index r [c] := by
        rw [Lib.index_one]
        exact Lib.indexByte_ge _ _
      obtain ⟨i, e⟩ : ∃ i : Nat, Lib.index r [c] = (i : Int) := ⟨(Lib.index r [c]).toNat, by omega⟩
      have h1 : (Lib.index r [c] == -1) = false := beq_eq_false_iff_ne.mpr h
      have h2 : (Lib.index (b :: r) [c] == -1) = false := by
        rw [hi, h1, e]
        exact beq_eq_false_iff_ne.mpr (by simp; omega)
      have h3 : Lib.index (b :: r) [c] = ((i + 1 : Nat) : Int) := by rw [hi, h1, e]; simp
      rw [h1, h2, h3, e]
      refine ⟨_, _, rfl, ?_⟩
      simp only [Int.toNat_natCast, Nat.add_zero]
      rfl
theorem split_pieces (c : UInt8) : ∀ s : List UInt8, Lib.splitK [c] 0 (s.count c) s = pieces c s
  | [] => rfl
  | b :: r => by
    by_cases hb : b = c
    · subst hb
      rw [pieces_sep, ← split_pieces b r, List.count_cons_self]
      have h0 : Lib.index (b :: r) [b] = 0 := by rw [Lib.index, if_pos (by simp [List.isPrefixOf])]
      conv => lhs; unfold Lib.splitK
      rw [h0]
      rfl
    · rw [List.count_cons_of_ne hb]
      obtain ⟨q, qs, h1, h2⟩ := splitc_head hb r (r.count c)
      obtain ⟨q', qs', h3, h4⟩ := pieces_head r hb
      rw [split_pieces c r, h3] at h1
      injection h1 with e1 e2
      rw [h2, h4, e1, e2]
theorem pieces_app (c : UInt8) : ∀ (x : List UInt8), (∀ b ∈ x, b ≠ c) → ∀ t, pieces c (x ++ c :: t) = x :: pieces c t
  | [], _, t => pieces_sep c t
  | b :: x, h, t => by
    obtain ⟨q, qs, h1, h2⟩ := pieces_head (x ++ c :: t) (h b (List.mem_cons_self ..))
    rw [pieces_app c x (fun d hd => h d (List.mem_cons_of_mem _ hd)) t] at h1
    injection h1 with e1 e2
    rw [List.cons_append, h2, e1, e2]
theorem pieces_one (c : UInt8) : ∀ (x : List UInt8), (∀ b ∈ x, b ≠ c) → pieces c x = [x]
  | [], _ => rfl
  | b :: x, h => by
    obtain ⟨q, qs, h1, h2⟩ := pieces_head x (h b (List.mem_cons_self ..))
    rw [pieces_one c x (fun d hd => h d (List.mem_cons_of_mem _ hd))] at h1
    injection h1 with e1 e2
    rw [h2, ← e1, ← e2]
theorem pieces_len (c : UInt8) : ∀ s : List UInt8, (pieces c s).length ≤ s.length + 1
  | [] => by simp [pieces]
  | b :: r => by
    have ih := pieces_len c r
    by_cases hb : b = c
    · subst hb
      rw [pieces_sep, List.length_cons, List.length_cons]
      omega
    · obtain ⟨q, qs, h1, h2⟩ := pieces_head r hb
      rw [h2]
      rw [h1] at ih
      simp only [List.length_cons] at ih ⊢
      omega
theorem pieces_small (c : UInt8) : ∀ s : List UInt8, ∀ p ∈ pieces c s, p.length ≤ s.length
  | [], p, hp => by
    obtain rfl : p = [] := by simpa [pieces] using hp
    simp
  | b :: r, p, hp => by
    by_cases hb : b = c
    · subst hb
      rw [pieces_sep] at hp
      rcases List.mem_cons.mp hp with rfl | hp
      · simp
      · have := pieces_small b r p hp
        rw [List.length_cons]
        omega
    · obtain ⟨q, qs, h1, h2⟩ := pieces_head r hb
      rw [h2] at hp
      rcases List.mem_cons.mp hp with rfl | hp
      · have := pieces_small c r q (by rw [h1]; exact List.mem_cons_self)
        simp only [List.length_cons]
        omega
      · have := pieces_small c r p (by rw [h1]; exact List.mem_cons_of_mem _ hp)
        rw [List.length_cons]
        omega
def bytes (l : List UInt8) : ByteArray := ⟨l.toArray⟩
theorem bytes_back (s : ByteArray) : bytes s.data.toList = s := by
  cases s
  rfl
theorem bytes_size (l : List UInt8) : (bytes l).size = l.length := by
  show l.toArray.size = l.length
  simp
theorem back_size (s : ByteArray) : s.data.toList.length = s.size := Array.length_toList
theorem bytes_app (a b : List UInt8) : bytes a ++ bytes b = bytes (a ++ b) := by
  rw [← bytes_back (bytes a ++ bytes b), ByteArray.data_append, Array.toList_append]
  rfl
theorem split_bytes (c : UInt8) (s : ByteArray) (hs : s.size ≤ 1048577) : strings_Split.f s (⟨#[c]⟩ : ByteArray) = some ((pieces c s.data.toList).map bytes) := by
  unfold strings_Split.f
  rw [if_pos ⟨rfl, by omega⟩]
  congr 1
  have h : (Lib.splitB ⟨#[c]⟩ 0 (Lib.countB s ⟨#[c]⟩) s).map (·.data.toList) = pieces c s.data.toList := by
    rw [Lib.splitB_data]
    show Lib.splitK [c] 0 (Lib.count s.data.toList [c]) s.data.toList = _
    rw [Lib.count_one]
    exact split_pieces c _
  rw [← h, List.map_map]
  conv => lhs; rw [← List.map_id (Lib.splitB ⟨#[c]⟩ 0 (Lib.countB s ⟨#[c]⟩) s)]
  apply List.map_congr_left
  intro p _
  exact (bytes_back p).symm
theorem bytes_inj {a b : ByteArray} (h : a.data.toList = b.data.toList) : a = b := by rw [← bytes_back a, ← bytes_back b, h]
/-! ### a line's first word -/
theorem indexB_here (c : UInt8) (r : List UInt8) : Lib.indexByte (c :: r) c = 0 := by
  unfold Lib.indexByte
  rw [if_pos (beq_self_eq_true c)]
theorem indexB_pre (c : UInt8) (r : List UInt8) : ∀ x : List UInt8, (∀ b ∈ x, b ≠ c) → Lib.indexByte (x ++ c :: r) c = (x.length : Int)
  | [], _ => indexB_here c r
  | b :: x, h => by
    have ih := indexB_pre c r x (fun d hd => h d (List.mem_cons_of_mem _ hd))
    rw [List.cons_append]
    unfold Lib.indexByte
    rw [if_neg (by rw [beq_iff_eq]; exact h b (List.mem_cons_self ..)), ih, if_neg (by rw [beq_iff_eq]; omega), List.length_cons]
    omega
theorem indexB_none (c : UInt8) : ∀ x : List UInt8, (∀ b ∈ x, b ≠ c) → Lib.indexByte x c = -1
  | [], _ => rfl
  | b :: x, h => by
    unfold Lib.indexByte
    rw [if_neg (by rw [beq_iff_eq]; exact h b (List.mem_cons_self ..)), indexB_none c x (fun d hd => h d (List.mem_cons_of_mem _ hd))]
    rfl
theorem cut_word (x r : List UInt8) (h : ∀ b ∈ x, b ≠ 32) : strings_Cut.f (bytes (x ++ 32 :: r)) = (bytes x, bytes r, true) := by
  have hd : (bytes (x ++ 32 :: r)).data.toList = x ++ 32 :: r := by simp [bytes]
  unfold strings_Cut.f
  rw [hd, indexB_pre 32 r x h, if_pos (by omega), Int.toNat_natCast]
  have e1 : (bytes (x ++ 32 :: r)).extract 0 x.length = bytes x := by
    rw [← bytes_back ((bytes (x ++ 32 :: r)).extract 0 x.length), Lib.extract_data, hd]
    simp
  have e2 : (bytes (x ++ 32 :: r)).extract (x.length + 1) (bytes (x ++ 32 :: r)).size = bytes r := by
    rw [← bytes_back ((bytes (x ++ 32 :: r)).extract (x.length + 1) _), Lib.extract_data, hd, bytes_size]
    congr 1
    rw [List.drop_append, List.drop_eq_nil_of_le (by omega), show x.length + 1 - x.length = 1 by omega]
    simp only [List.length_append, List.length_cons, List.drop_succ_cons, List.drop_zero, List.nil_append]
    exact List.take_of_length_le (by omega)
  rw [e1, e2]
theorem cut_bare (x : List UInt8) (h : ∀ b ∈ x, b ≠ 32) : strings_Cut.f (bytes x) = (bytes x, ⟨#[]⟩, false) := by
  have hd : (bytes x).data.toList = x := by simp [bytes]
  unfold strings_Cut.f
  rw [hd, indexB_none 32 x h, if_neg (by omega)]
/-! ### numbers with just one space between, read -/
def digs : Nat → List UInt8 → Option Nat
  | n, [] => some n
  | n, c :: r => if 48 ≤ c.toNat ∧ c.toNat ≤ 57 then digs (n * 10 + (c.toNat - 48)) r else none
def tokNum (p : List UInt8) : Option Int := if 1 ≤ p.length ∧ p.length ≤ 3 then (digs 0 p).map Int.ofNat else none
def nums : List (List UInt8) → Option (List Int)
  | [] => some []
  | p :: r => (tokNum p).bind fun n => (nums r).bind fun ns => some (n :: ns)
def numsOf (s : List UInt8) : Option (List Int) := nums (pieces 32 s)
theorem dropb_at {s : ByteArray} {i : Nat} (h : i < s.size) : ∃ b : UInt8, s.data.toList.drop i = b :: s.data.toList.drop (i + 1) ∧ bt s (i : Int) = (b.toNat : Int) := by
  have hl : i < s.data.toList.length := by rw [back_size]; exact h
  refine ⟨s.data.toList[i], List.drop_eq_getElem_cons hl, ?_⟩
  unfold bt
  rw [dif_pos (by simpa using h)]
  rfl
theorem dropb_end {s : ByteArray} {i : Nat} (h : s.size ≤ i) : s.data.toList.drop i = [] := List.drop_eq_nil_of_le (by rw [back_size]; exact h)
theorem wrap_succN {n : Nat} (h : n ≤ 1000000000) : wrap64 ((n : Int) + 1) = ((n + 1 : Nat) : Int) := by unfold wrap64; omega
theorem readnum_l (ps : List ByteArray) (L j : Int) (acc : List Int) (hacc : acc.length ≤ 1000000) (p : ByteArray) (hp : p.size ≤ 3) : ∀ (d m i n : Nat), i + d = p.size → n < 10 ^ i →
    impl_readNumbers.l1 (m + d + 1) acc p (n : Int) ps L j (p.size : Int) (i : Int) = (match digs n (p.data.toList.drop i) with
      | none => some ([], false)
      | some v => impl_readNumbers.l0 m (acc ++ [(v : Int)]) ps L (wrap64 (j + 1))) := by
  intro d
  induction d with
  | zero =>
    intro m i n hi hn
    rw [dropb_end (by omega), Nat.add_zero, impl_readNumbers.l1, if_neg (by omega), if_pos (by omega)]
    rfl
  | succ d ih =>
    intro m i n hi hn
    obtain ⟨c, e1, e2⟩ := dropb_at (s := p) (i := i) (by omega)
    have hc := c.toNat_lt
    have hn2 : n < 1000 := by
      have : 10 ^ i ≤ 10 ^ 3 := Nat.pow_le_pow_right (by omega) (by omega)
      omega
    rw [show m + (d + 1) + 1 = (m + d + 1) + 1 by omega, impl_readNumbers.l1, if_pos (by omega), if_pos (by omega), if_pos (by omega), e2, e1, digs]
    by_cases h1 : c.toNat < 48
    · rw [if_pos (by omega), if_neg (by omega)]
    · rw [if_neg (by omega)]
      by_cases h2 : 57 < c.toNat
      · rw [if_pos (by omega), if_neg (by omega)]
      · have hw : wrap64 (wrap64 ((n : Int) * 10) + ((c.toNat : Int) - 48) % 256) = ((n * 10 + (c.toNat - 48) : Nat) : Int) := by
          have e3 : wrap64 ((n : Int) * 10) = (n : Int) * 10 := by unfold wrap64; omega
          have e4 : ((c.toNat : Int) - 48) % 256 = (c.toNat : Int) - 48 := by omega
          rw [e3, e4]
          unfold wrap64
          omega
        rw [if_neg (by omega), if_pos (by omega), hw, wrap_succN (by omega)]
        have hpow : n * 10 + (c.toNat - 48) < 10 ^ (i + 1) := by
          rw [Nat.pow_succ]
          omega
        exact ih m (i + 1) _ (by omega) hpow
theorem readnums_l (ps : List ByteArray) (hl : ps.length ≤ 1000000) : ∀ (d k j : Nat) (acc : List Int), j + d = ps.length → acc.length = j → 6 * d + 1 ≤ k →
    impl_readNumbers.l0 k acc ps (ps.length : Int) (j : Int) = some (match nums ((ps.drop j).map (·.data.toList)) with
      | some ys => (acc ++ ys, true)
      | none => ([], false)) := by
  intro d
  induction d with
  | zero =>
    intro k j acc hj ha hk
    obtain ⟨m, rfl⟩ : ∃ m, k = m + 1 := ⟨k - 1, by omega⟩
    rw [impl_readNumbers.l0, if_neg (by omega), List.drop_eq_nil_of_le (by omega)]
    simp [nums]
  | succ d ih =>
    intro k j acc hj ha hk
    obtain ⟨m, rfl⟩ : ∃ m, k = m + 1 + 1 := ⟨k - 2, by omega⟩
    have hjl : j < ps.length := by omega
    have hr : rdOf ByteArray.empty ps (j : Int) = ps[j] := by simp [rdOf, hjl]
    have hsz := back_size ps[j]
    rw [impl_readNumbers.l0, if_pos (by omega), if_pos (by omega), if_pos (by omega), hr, List.drop_eq_getElem_cons hjl, List.map_cons, nums]
    unfold tokNum
    by_cases h1 : ps[j].size < 1
    · rw [if_pos (by omega), impl_readNumbers.j1, if_pos rfl, if_neg (by omega)]
      rfl
    · rw [if_neg (by omega), impl_readNumbers.j1]
      by_cases h3 : ps[j].size > 3
      · rw [if_pos (by simpa using (by omega : ((ps[j].size : Int) > 3))), if_neg (by omega)]
        rfl
      · rw [if_neg (by simpa using (by omega : ¬ ((ps[j].size : Int) > 3))), if_pos (by omega)]
        have g := readnum_l ps (ps.length : Int) (j : Int) acc (by omega) ps[j] (by omega) ps[j].size (m - ps[j].size - 1) 0 0 (by omega) (by simp)
        rw [show m - ps[j].size - 1 + ps[j].size + 1 = m by omega] at g
        rw [show ((0 : Nat) : Int) = 0 from rfl] at g
        rw [g, List.drop_zero]
        cases hd : digs 0 ps[j].data.toList with
        | none => rfl
        | some v =>
          dsimp only
          rw [wrap_succN (by omega), ih _ (j + 1) (acc ++ [(v : Int)]) (by omega) (by simp [ha]) (by omega)]
          simp only [Option.map_some, Option.bind_some]
          cases nums ((ps.drop (j + 1)).map (·.data.toList)) with
          | none => rfl
          | some ys => simp
theorem readnums_tells (s : List UInt8) (hs : s.length ≤ 100000) (k : Nat) (hk : 6 * s.length + 8 ≤ k) : impl_readNumbers.f k (bytes s) = some (match numsOf s with
    | some ys => (ys, true)
    | none => ([], false)) := by
  have hd : (bytes s).data.toList = s := by simp [bytes]
  have hpl := pieces_len 32 s
  unfold impl_readNumbers.f
  rw [split_bytes 32 _ (by rw [bytes_size]; omega), hd, Option.bind_some]
  have h := readnums_l ((pieces 32 s).map bytes) (by rw [List.length_map]; omega) (pieces 32 s).length k 0 [] (by rw [List.length_map]; omega) rfl (by omega)
  rw [show ((0 : Nat) : Int) = 0 from rfl] at h
  rw [h, List.drop_zero, List.map_map]
  have e : (pieces 32 s).map ((·.data.toList) ∘ bytes) = pieces 32 s := by
    conv => rhs; rw [← List.map_id (pieces 32 s)]
    apply List.map_congr_left
    intro p _
    simp [bytes]
  rw [e]
  rfl
/-! ### what is said of a list is read again -/
theorem pieces_join (c : UInt8) : ∀ (r : List (List UInt8)) (x : List UInt8), (∀ q ∈ x :: r, ∀ b ∈ q, b ≠ c) → pieces c (Lib.join (x :: r) [c]) = x :: r
  | [], x, h => by
    rw [Lib.join_one]
    exact pieces_one c x (h x (List.mem_cons_self ..))
  | y :: r, x, h => by
    have e : Lib.join (x :: y :: r) [c] = x ++ c :: Lib.join (y :: r) [c] := by
      rw [Lib.join_cons, Lib.join_cons]
      unfold Lib.joinTail
      rw [List.map_cons, List.flatten_cons, List.append_assoc]
      rfl
    rw [e, pieces_app c x (h x (List.mem_cons_self ..)), pieces_join c r y (fun q hq => h q (List.mem_cons_of_mem _ hq))]
def sayAll (xs : List Int) : List UInt8 := Lib.join (xs.map Lib.itoa) [32]
theorem itoa_61 : ∀ n : Nat, n < 61 → tokNum (Lib.itoa (n : Int)) = some (n : Int) ∧ (∀ b ∈ Lib.itoa (n : Int), b ≠ 32 ∧ b ≠ 10) ∧ (Lib.itoa (n : Int)).length ≤ 2 := by decide +kernel
theorem itoa_60 {n : Int} (h : 1 ≤ n ∧ n ≤ 60) : tokNum (Lib.itoa n) = some n ∧ (∀ b ∈ Lib.itoa n, b ≠ 32 ∧ b ≠ 10) ∧ (Lib.itoa n).length ≤ 2 := by
  have := itoa_61 n.toNat (by omega)
  rw [Int.toNat_of_nonneg (by omega)] at this
  exact this
theorem nums_itoa : ∀ (xs : List Int), (∀ x ∈ xs, 1 ≤ x ∧ x ≤ 60) → nums (xs.map Lib.itoa) = some xs
  | [], _ => rfl
  | x :: xs, h => by
    rw [List.map_cons, nums, (itoa_60 (h x (List.mem_cons_self ..))).1, Option.bind_some, nums_itoa xs (fun y hy => h y (List.mem_cons_of_mem _ hy)), Option.bind_some]
theorem nums_said {xs : List Int} (h0 : xs ≠ []) (h : ∀ x ∈ xs, 1 ≤ x ∧ x ≤ 60) : numsOf (sayAll xs) = some xs := by
  unfold numsOf sayAll
  cases xs with
  | nil => exact absurd rfl h0
  | cons x r =>
    rw [List.map_cons, pieces_join, ← List.map_cons]
    · exact nums_itoa _ h
    · intro q hq b hb
      rw [← List.map_cons, List.mem_map] at hq
      obtain ⟨m, hm, rfl⟩ := hq
      exact ((itoa_60 (h m hm)).2.1 b hb).1
theorem join_mem {b : UInt8} : ∀ (r : List (List UInt8)), b ∈ Lib.join r [32] → b = 32 ∨ ∃ q ∈ r, b ∈ q
  | [], h => by simp [Lib.join] at h
  | x :: r, h => by
    rw [Lib.join_cons] at h
    rcases List.mem_append.mp h with h | h
    · exact .inr ⟨x, List.mem_cons_self, h⟩
    · unfold Lib.joinTail at h
      rw [List.mem_flatten] at h
      obtain ⟨q, hq, hb⟩ := h
      obtain ⟨y, hy, rfl⟩ := List.mem_map.mp hq
      rcases List.mem_append.mp hb with hb | hb
      · exact .inl (by simpa using hb)
      · exact .inr ⟨y, List.mem_cons_of_mem _ hy, hb⟩
theorem said_no10 {xs : List Int} (h : ∀ x ∈ xs, 1 ≤ x ∧ x ≤ 60) : ∀ b ∈ sayAll xs, b ≠ 10 := by
  intro b hb
  rcases join_mem _ hb with rfl | ⟨q, hq, hbq⟩
  · decide
  · obtain ⟨m, hm, rfl⟩ := List.mem_map.mp hq
    exact ((itoa_60 (h m hm)).2.1 b hbq).2
theorem join_len (B : Nat) : ∀ (r : List (List UInt8)), (∀ q ∈ r, q.length ≤ B) → (Lib.join r [32]).length ≤ (B + 1) * r.length
  | [], _ => by simp [Lib.join]
  | x :: r, h => by
    rw [Lib.join_cons, List.length_append]
    have h1 := h x List.mem_cons_self
    have h2 : ∀ r : List (List UInt8), (∀ q ∈ r, q.length ≤ B) → (Lib.joinTail [32] r).length ≤ (B + 1) * r.length := by
      intro r
      induction r with
      | nil => intro _; simp [Lib.joinTail]
      | cons z r ih =>
        intro h
        have g1 := h z List.mem_cons_self
        have g2 := ih (fun y hy => h y (List.mem_cons_of_mem _ hy))
        unfold Lib.joinTail at g2 ⊢
        rw [List.map_cons, List.flatten_cons, List.length_append, List.length_append]
        simp only [List.length_cons, List.length_nil, Nat.mul_add, Nat.mul_one]
        omega
    have h3 := h2 r (fun q hq => h q (List.mem_cons_of_mem _ hq))
    rw [List.length_cons, Nat.mul_add]
    omega
theorem said_size {xs : List Int} (h : ∀ x ∈ xs, 1 ≤ x ∧ x ≤ 60) : (sayAll xs).length ≤ 3 * xs.length := by
  have := join_len 2 (xs.map Lib.itoa) (fun q hq => by
    obtain ⟨m, hm, rfl⟩ := List.mem_map.mp hq
    exact (itoa_60 (h m hm)).2.2)
  rw [List.length_map] at this
  exact this
/-! ### a list is said -/
theorem itoa_f (n : Int) (h : -1000 ≤ n ∧ n ≤ 1000) : strconv_Itoa.f n = some (bytes (Lib.itoa n)) := by
  unfold strconv_Itoa.f
  rw [if_pos ⟨by omega, by omega⟩]
  rfl
theorem digits_1000 : ∀ n : Nat, n < 1000 → laws_digits.f 4 (n : Int) = some (bytes (Lib.itoa (n : Int))) ∧ (Lib.itoa (n : Int)).length ≤ 3 := by decide +kernel
theorem digits_tells {n : Int} (h : 0 ≤ n ∧ n ≤ 999) (k : Nat) (hk : 4 ≤ k) : laws_digits.f k n = some (bytes (Lib.itoa n)) ∧ (Lib.itoa n).length ≤ 3 := by
  have := digits_1000 n.toNat (by omega)
  rw [Int.toNat_of_nonneg (by omega)] at this
  exact ⟨at_rounds (laws_digits.mono n) hk this.1, this.2⟩
theorem sayAll_snoc (xs : List Int) (n : Int) (h : xs ≠ []) : sayAll (xs ++ [n]) = sayAll xs ++ 32 :: Lib.itoa n := by
  match xs, h with
  | x :: r, _ =>
    unfold sayAll
    rw [List.cons_append, List.map_cons, List.map_cons, Lib.join_cons, Lib.join_cons, List.map_append]
    unfold Lib.joinTail
    rw [List.map_append, List.flatten_append]
    simp [List.append_assoc]
theorem sayAll_one (n : Int) : sayAll [n] = Lib.itoa n := by
  unfold sayAll
  rw [List.map_cons, List.map_nil, Lib.join_one]
theorem sayAll_len {xs : List Int} (h : ∀ x ∈ xs, 0 ≤ x ∧ x ≤ 999) : (sayAll xs).length ≤ 4 * xs.length := by
  have := join_len 3 (xs.map Lib.itoa) (fun q hq => by
    obtain ⟨m, hm, rfl⟩ := List.mem_map.mp hq
    exact (digits_tells (h m hm) 4 (by omega)).2)
  rw [List.length_map] at this
  exact this
theorem spaced_l (xs : List Int) (hl : xs.length ≤ 100000) (hx : ∀ y ∈ xs, 0 ≤ y ∧ y ≤ 999) : ∀ (d k i : Nat) (s : List UInt8), i + d = xs.length → d + 5 ≤ k → s.length ≤ 4 * i → s = sayAll (xs.take i) →
    laws_spaced.l0 k xs (bytes s) (i : Int) = some (bytes (sayAll xs)) := by
  intro d
  induction d with
  | zero =>
    intro k i s hi hk hs he
    obtain ⟨m, rfl⟩ : ∃ m, k = m + 1 := ⟨k - 1, by omega⟩
    rw [laws_spaced.l0, if_neg (by omega), he, List.take_of_length_le (by omega)]
  | succ d ih =>
    intro k i s hi hk hs he
    obtain ⟨m, rfl⟩ : ∃ m, k = m + 1 := ⟨k - 1, by omega⟩
    have hil : i < xs.length := by omega
    obtain ⟨t1, t3⟩ := digits_tells (hx _ (List.getElem_mem hil)) m (by omega)
    rw [laws_spaced.l0, if_pos (by omega), rd_at hil, wrap_succN (by omega), t1]
    simp only [Option.bind_some]
    have hbs : bytes s ++ (⟨#[32]⟩ : ByteArray) = bytes (s ++ [32]) := bytes_app s [32]
    by_cases h0 : 0 < i
    · have hne : xs.take i ≠ [] := by
        intro h
        have := congrArg List.length h
        rw [List.length_take, List.length_nil] at this
        omega
      rw [if_pos (by omega), if_pos (by rw [bytes_size]; omega), if_pos (by omega), hbs, if_pos (by rw [bytes_size, bytes_size, List.length_append]; simp only [List.length_cons, List.length_nil]; omega), bytes_app]
      refine ih m (i + 1) _ (by omega) (by omega) (by rw [List.length_append, List.length_append]; simp only [List.length_cons, List.length_nil]; omega) ?_
      rw [List.take_succ_eq_append_getElem hil, sayAll_snoc _ _ hne, ← he, List.append_assoc]
      rfl
    · have hi0 : i = 0 := by omega
      subst hi0
      rw [if_neg (by omega), if_pos (by omega), if_pos (by rw [bytes_size, bytes_size]; omega), bytes_app]
      refine ih m (0 + 1) _ (by omega) (by omega) (by rw [List.length_append]; omega) ?_
      have hs0 : s = [] := List.eq_nil_of_length_eq_zero (by omega)
      rw [List.take_succ_eq_append_getElem hil, List.take_zero, List.nil_append, sayAll_one, hs0, List.nil_append]
theorem spaced_tells (xs : List Int) (hl : xs.length ≤ 100000) (hx : ∀ y ∈ xs, 0 ≤ y ∧ y ≤ 999) (k : Nat) (hk : xs.length + 5 ≤ k) : laws_spaced.f k xs = some (bytes (sayAll xs)) := by
  unfold laws_spaced.f
  have h := spaced_l xs hl hx xs.length k 0 [] (by omega) (by omega) (by simp) (by simp [sayAll, Lib.join])
  exact h
theorem ends_said {l : List Int} (hr : isRuler l) : (sayAll (endsOf l)).length ≤ 1700 := by
  have h1 := ends_few hr
  have h2 := ends_in hr
  have := sayAll_len (xs := endsOf l) (fun y hy => by have := h2 y hy; omega)
  omega
theorem numtext_l (xs : List Int) (hl : xs.length ≤ 1000) (sep : ByteArray) (hx : ∀ y ∈ xs, -1000000000000000 ≤ y ∧ y ≤ 1000000000000000) (hx2 : ∀ y ∈ xs, strconv_Itoa.f y = some (bytes (Lib.itoa y))) (hj : (Lib.join (xs.map Lib.itoa) sep.data.toList).length ≤ 1048576) : ∀ (d k i : Nat) (out : List ByteArray), i + d = xs.length → d + 1 ≤ k → out = (xs.take i).map (fun n => bytes (Lib.itoa n)) →
    impl_numbersText.l0 k sep out xs (xs.length : Int) (i : Int) = some (bytes (Lib.join (xs.map Lib.itoa) sep.data.toList)) := by
  intro d
  induction d with
  | zero =>
    intro k i out hi hk ho
    obtain ⟨m, rfl⟩ : ∃ m, k = m + 1 := ⟨k - 1, by omega⟩
    rw [List.take_of_length_le (by omega)] at ho
    have e : out.map (·.data.toList) = xs.map Lib.itoa := by
      rw [ho, List.map_map]
      apply List.map_congr_left
      intro n _
      simp [bytes]
    rw [impl_numbersText.l0, if_neg (by omega)]
    unfold strings_Join.f
    rw [e, if_pos ⟨by rw [ho, List.length_map]; omega, hj⟩, Option.bind_some]
    rfl
  | succ d ih =>
    intro k i out hi hk ho
    obtain ⟨m, rfl⟩ : ∃ m, k = m + 1 := ⟨k - 1, by omega⟩
    have hil : i < xs.length := by omega
    have h1 := hx2 _ (List.getElem_mem hil)
    have hol : out.length ≤ 1000 := by rw [ho, List.length_map, List.length_take]; omega
    rw [impl_numbersText.l0, if_pos (by omega), if_pos (by omega), if_pos (by omega), rd_at hil, wrap_nat (by omega), h1, Option.bind_some, if_pos (by omega)]
    refine ih m (i + 1) _ (by omega) (by omega) ?_
    rw [ho, List.take_succ_eq_append_getElem hil, List.map_append, List.map_cons, List.map_nil]
theorem numtext_tells (xs : List Int) (hl : xs.length ≤ 1000) (sep : ByteArray) (hx : ∀ y ∈ xs, -1000000000000000 ≤ y ∧ y ≤ 1000000000000000) (hx2 : ∀ y ∈ xs, strconv_Itoa.f y = some (bytes (Lib.itoa y))) (hj : (Lib.join (xs.map Lib.itoa) sep.data.toList).length ≤ 1048576) (k : Nat) (hk : xs.length + 1 ≤ k) :
    impl_numbersText.f k xs sep = some (bytes (Lib.join (xs.map Lib.itoa) sep.data.toList)) := by
  unfold impl_numbersText.f
  exact numtext_l xs hl sep hx hx2 hj xs.length k 0 [] (by omega) (by omega) rfl
/-! ### a script's lines, one behind the other -/
def lineOf (k : Nat) (l : List Int) (p : ByteArray) : Option (ByteArray × List Int) := if (strings_Cut.f p).2.2 = true then impl_withRest.f k l (strings_Cut.f p).1 (strings_Cut.f p).2.1 else impl_withoutRest.f k l (strings_Cut.f p).1
theorem line_rounds {k k' : Nat} (h : k ≤ k') {l : List Int} {p : ByteArray} {x : ByteArray × List Int} (hx : lineOf k l p = some x) : lineOf k' l p = some x := by
  unfold lineOf at hx ⊢
  by_cases c : (strings_Cut.f p).2.2 = true
  · rw [if_pos c] at hx ⊢
    exact at_rounds (fun k => impl_withRest.mono _ _ _ k) h hx
  · rw [if_neg c] at hx ⊢
    exact at_rounds (fun k => impl_withoutRest.mono _ _ k) h hx
def runOf (k : Nat) : List ByteArray → List UInt8 → List Int → Option (List UInt8 × List Int)
  | [], acc, l => some (acc, l)
  | p :: r, acc, l => (lineOf k l p).bind fun x => if x.1.size ≤ 1700 then runOf k r (acc ++ (x.1 ++ (⟨#[10]⟩ : ByteArray)).data.toList) x.2 else none
theorem run_l0 (K : Nat) (ls : List ByteArray) (h6 : ls.length ≤ 601) (hp : ∀ p ∈ ls, p.size ≤ 600) (res : List UInt8 × List Int) : ∀ (d k i : Nat) (acc : List UInt8) (l : List Int), i + d = ls.length → K + d + 1 ≤ k → acc.length ≤ i * 1701 → runOf K (ls.drop i) acc l = some res →
    impl_Execute.l0 k ls acc l (i : Int) = some res := by
  intro d
  induction d with
  | zero =>
    intro k i acc l hi hk ha hr
    obtain ⟨m, rfl⟩ : ∃ m, k = m + 1 := ⟨k - 1, by omega⟩
    rw [List.drop_eq_nil_of_le (by omega)] at hr
    rw [impl_Execute.l0, if_neg (by omega)]
    exact hr
  | succ d ih =>
    intro k i acc l hi hk ha hr
    obtain ⟨m, rfl⟩ : ∃ m, k = m + 1 := ⟨k - 1, by omega⟩
    have hil : i < ls.length := by omega
    have hrd : rdOf ByteArray.empty ls (i : Int) = ls[i] := by simp [rdOf, hil]
    rw [List.drop_eq_getElem_cons hil, runOf] at hr
    obtain ⟨x, h1, h2⟩ := Option.bind_eq_some_iff.mp hr
    have hx := line_rounds (show K ≤ m by omega) h1
    have hpi := hp _ (List.getElem_mem hil)
    split at h2
    · next hs =>
      have hlen : (acc ++ (x.1 ++ (⟨#[10]⟩ : ByteArray)).data.toList).length ≤ (i + 1) * 1701 := by
        have e : (x.1 ++ (⟨#[10]⟩ : ByteArray)).data.toList.length = x.1.size + 1 := by
          rw [back_size]
          exact ByteArray.size_append
        rw [List.length_append, e]
        omega
      have hw : wrap64 ((i : Int) + 1) = ((i + 1 : Nat) : Int) := by unfold wrap64; omega
      have g := ih m (i + 1) _ x.2 (by omega) (by omega) hlen h2
      rw [impl_Execute.l0, if_pos (by omega), if_pos (by omega), hrd, if_pos (by omega), if_pos (by omega), hw]
      unfold lineOf at hx
      by_cases c : (strings_Cut.f ls[i]).2.2 = true
      · rw [if_pos c] at hx ⊢
        rw [hx, Option.bind_some, if_pos (by omega)]
        exact g
      · rw [if_neg c] at hx ⊢
        rw [hx, Option.bind_some, if_pos (by omega)]
        exact g
    · cases h2
theorem itoa_few : ∀ n : Nat, n < 10 → (Lib.itoa (n : Int)) = [(n.toUInt8 + 48)] := by decide +kernel
/-- A script that ends with a newline, at most as long as is told. -/
theorem exec_tells (K : Nat) (s : List UInt8) (h6 : s.length ≤ 600) (acc : List UInt8) (l : List Int) (hl : l.length ≤ 9) (ha : acc.length ≤ 1048576)
    (hr : runOf K (((pieces 10 s).take ((pieces 10 s).length - 1)).map bytes) [] [3, 4, 5] = some (acc, l)) (k : Nat) (hk : K + 602 ≤ k) :
    impl_Execute.f k (bytes s) = some (bytes (acc ++ [115, 116, 105, 99, 107, 115, 32, l.length.toUInt8 + 48, 10])) := by
  have hd : (bytes s).data.toList = s := by simp [bytes]
  have hpl := pieces_len 10 s
  have hpn : 1 ≤ (pieces 10 s).length := by
    have := pieces_ne 10 s
    cases h : pieces 10 s with
    | nil => exact absurd h this
    | cons => simp
  unfold impl_Execute.f
  rw [if_neg (by rw [bytes_size]; omega), split_bytes 10 _ (by rw [bytes_size]; omega), hd, Option.bind_some, List.length_map, if_pos (by omega), ← List.map_take]
  have hlen : (((pieces 10 s).take ((pieces 10 s).length - 1)).map bytes).length ≤ 600 := by
    rw [List.length_map, List.length_take]
    omega
  have h0 := run_l0 K _ (by omega) (by
    intro p hp
    obtain ⟨q, hq, rfl⟩ := List.mem_map.mp hp
    rw [bytes_size]
    have := pieces_small 10 s q (List.mem_of_mem_take hq)
    omega) _ _ k 0 [] [3, 4, 5] (Nat.zero_add _) (by omega) (by simp) hr
  rw [Int.ofNat_zero] at h0 
  rw [h0, Option.bind_some, if_pos ha]
  dsimp only
  unfold strconv_Itoa.f
  rw [if_pos ⟨by omega, by omega⟩, Option.bind_some, itoa_few l.length (by omega), if_pos (by show (1 : Nat) ≤ 100; decide)]
  rfl
/-! ### a ruler is set, and something is asked -/
theorem set_tells (K : Nat) (a : List Int) (hr : isRuler a) (hK : 200 ≤ K) : impl_withRest.f_set K [3, 4, 5] (bytes (sayAll a)) = some (⟨#[111, 107]⟩, a) := by
  have h9 := hr.2
  have hs := said_size hr.1
  unfold impl_withRest.f_set
  rw [readnums_tells _ (by omega) K (by omega), nums_said (by intro h; rw [h] at h9; simp at h9) hr.1]
  simp only [Option.bind_some]
  rw [if_pos trivial, if_pos (by omega), impl_ruler a (by omega) K (by omega), Option.bind_some, if_pos (by simpa using hr)]
theorem ask_tells (K : Nat) (a : List Int) (hr : isRuler a) (hK : 200 ≤ K) (W : List UInt8) (hW : ∀ b ∈ W, b ≠ 10) (hW2 : ∀ b ∈ W, b ≠ 32) (hWl : W.length ≤ 20) (out : ByteArray) (ho : out.size ≤ 1700)
    (hset : impl_withRest.f K [3, 4, 5] (bytes [115, 101, 116]) (bytes (sayAll a)) = some (⟨#[111, 107]⟩, a)) (hq : impl_withoutRest.f K a (bytes W) = some (out, a)) :
    impl_Execute.f (K + 602) (((⟨#[115, 101, 116, 32]⟩ : ByteArray) ++ bytes (sayAll a)) ++ bytes (10 :: (W ++ [10]))) = some ((((⟨#[111, 107, 10]⟩ : ByteArray) ++ out) ++ (⟨#[10, 115, 116, 105, 99, 107, 115, 32]⟩ : ByteArray)) ++ bytes (Lib.itoa (a.length : Int)) ++ (⟨#[10]⟩ : ByteArray)) := by
  have h9 := hr.2
  have hs := said_size hr.1
  have hn := said_no10 hr.1
  obtain ⟨S, hS⟩ : ∃ S, S = sayAll a := ⟨_, rfl⟩
  rw [← hS] at hs hn hset ⊢
  have hc1 : strings_Cut.f (bytes ([115, 101, 116] ++ 32 :: S)) = (bytes [115, 101, 116], bytes S, true) := cut_word [115, 101, 116] S (by decide)
  have hc2 : strings_Cut.f (bytes W) = (bytes W, ⟨#[]⟩, false) := cut_bare W hW2
  have e : ((⟨#[115, 101, 116, 32]⟩ : ByteArray) ++ bytes S) ++ bytes (10 :: (W ++ [10])) = bytes (([115, 101, 116] ++ 32 :: S) ++ 10 :: (W ++ [10])) := by
    rw [← bytes_app ([115, 101, 116] ++ 32 :: S), show (⟨#[115, 101, 116, 32]⟩ : ByteArray) = bytes [115, 101, 116, 32] from rfl, bytes_app]
    rfl
  have h5 : ∀ b ∈ ([115, 101, 116] : List UInt8), b ≠ 10 := by decide
  have hb : ∀ b ∈ ([115, 101, 116] ++ 32 :: S : List UInt8), b ≠ 10 := by
    intro b hb
    rcases List.mem_append.mp hb with hb | hb
    · exact h5 b hb
    · rcases List.mem_cons.mp hb with rfl | hb
      · decide
      · exact hn b hb
  have hz : ([115, 101, 116] ++ 32 :: S : List UInt8).length = 4 + S.length := by
    rw [List.length_append]
    simp only [List.length_cons, List.length_nil]
    omega
  obtain ⟨y, hy⟩ : ∃ y, y = ([115, 101, 116] ++ 32 :: S : List UInt8) := ⟨_, rfl⟩
  rw [← hy] at hc1 e hb hz
  clear hy
  have hp : pieces 10 (y ++ 10 :: (W ++ [10])) = [y, W, []] := by
    rw [pieces_app 10 _ hb, pieces_app 10 W hW]
    rfl
  have hl1 : lineOf K [3, 4, 5] (bytes y) = some (⟨#[111, 107]⟩, a) := by
    unfold lineOf
    rw [hc1, if_pos rfl]
    exact hset
  have hl2 : lineOf K a (bytes W) = some (out, a) := by
    unfold lineOf
    rw [hc2, if_neg (by simp)]
    exact hq
  have hz2 : (y ++ 10 :: (W ++ [10]) : List UInt8).length ≤ 600 := by
    rw [List.length_append, hz]
    simp only [List.length_cons, List.length_append, List.length_nil]
    omega
  have hrun : runOf K (((pieces 10 (y ++ 10 :: (W ++ [10]))).take ((pieces 10 (y ++ 10 :: (W ++ [10]))).length - 1)).map bytes) [] [3, 4, 5] = some ((([] ++ ((⟨#[111, 107]⟩ : ByteArray) ++ (⟨#[10]⟩ : ByteArray)).data.toList) ++ (out ++ (⟨#[10]⟩ : ByteArray)).data.toList), a) := by
    rw [hp]
    show runOf K [bytes y, bytes W] [] [3, 4, 5] = _
    rw [runOf, hl1, Option.bind_some, if_pos (by show (2 : Nat) ≤ 1700; decide), runOf, hl2, Option.bind_some, if_pos ho, runOf]
  have hos : (out ++ (⟨#[10]⟩ : ByteArray)).data.toList.length = out.size + 1 := by
    rw [back_size]
    exact ByteArray.size_append
  have hks : ((⟨#[111, 107]⟩ : ByteArray) ++ (⟨#[10]⟩ : ByteArray)).data.toList = [111, 107, 10] := rfl
  rw [hks, List.nil_append] at hrun
  rw [e, exec_tells K _ hz2 _ a (by omega) (by rw [List.length_append, hos]; simp only [List.length_cons, List.length_nil]; omega) hrun (K + 602) (by omega), itoa_few a.length (by omega)]
  congr 1
  apply bytes_inj
  simp only [ByteArray.data_append, Array.toList_append, List.append_assoc, bytes]
  simp
/-! ### the reader of draws -/
theorem wrap_id {x : Int} (h0 : -9223372036854775808 ≤ x) (h1 : x ≤ 9223372036854775807) : wrap64 x = x := by unfold wrap64; omega
theorem wf_u8 {l : List Int} (h : ∀ x ∈ l, (Lit.int .u8 x).wf = true) : ∀ x ∈ l, 0 ≤ x ∧ x ≤ 255 := by
  intro x hx
  have := h x hx
  simp [Lit.wf, IntKind.min, IntKind.max, IntKind.bits, IntKind.signed] at this
  omega
theorem rd_u8 {b : List Int} (hb : ∀ x ∈ b, 0 ≤ x ∧ x ≤ 255) (i : Int) (h0 : 0 ≤ i) (h1 : i < b.length) : 0 ≤ rd b i ∧ rd b i ≤ 255 := by
  have hl : i.toNat < b.length := by omega
  have : rd b i = b[i.toNat] := by
    unfold rd
    rw [List.getD_eq_getElem?_getD, List.getElem?_eq_getElem hl]
    rfl
  rw [this]
  exact hb _ (List.getElem_mem hl)
theorem xor_i64 (a b : Nat) (ha : a < 4611686018427387904) (hb : b < 4611686018427387904) : Go.bits .xor .i64 (a : Int) (b : Int) = ((a ^^^ b : Nat) : Int) := by
  have hx : a ^^^ b < 2 ^ 62 := Nat.xor_lt_two_pow (by omega) (by omega)
  have h1 : (BitVec.ofInt 64 (a : Int)).toNat = a := by
    rw [BitVec.ofInt_natCast, BitVec.toNat_ofNat]; exact Nat.mod_eq_of_lt (by omega)
  have h2 : (BitVec.ofInt 64 (b : Int)).toNat = b := by
    rw [BitVec.ofInt_natCast, BitVec.toNat_ofNat]; exact Nat.mod_eq_of_lt (by omega)
  show IntKind.i64.wrap ((BitVec.ofInt 64 (a : Int) ^^^ BitVec.ofInt 64 (b : Int)).toNat : Int) = _
  rw [BitVec.toNat_xor, h1, h2]
  generalize a ^^^ b = c at hx
  simp [IntKind.wrap, IntKind.bits, IntKind.signed]
  omega
theorem tmod_in {x n : Int} (hx : 0 ≤ x) (hn : 1 ≤ n) : 0 ≤ Int.tmod x n ∧ Int.tmod x n < n := by
  rw [Int.tmod_eq_emod_of_nonneg hx]
  exact ⟨Int.emod_nonneg _ (by omega), Int.emod_lt_of_pos _ (by omega)⟩
theorem tdiv_in {x n : Int} (hx : 0 ≤ x) (hn : 1 ≤ n) : 0 ≤ Int.tdiv x n ∧ Int.tdiv x n ≤ x := by
  rw [Int.tdiv_eq_ediv_of_nonneg hx]
  exact ⟨Int.ediv_nonneg hx (by omega), Int.ediv_le_self _ hx⟩
theorem pick_tells (b : List Int) (hb : ∀ x ∈ b, 0 ≤ x ∧ x ≤ 255) (hl : b.length ≤ 2000) (p n : Int) (hp : 0 ≤ p) (hp2 : p ≤ 1000000) (hn : 1 ≤ n) (hn2 : n ≤ 1000000) (k : Nat) (hk : 1 ≤ k) :
    ∃ r, spec_l6Rd_pick.f k b p n = some (r, p + 1) ∧ 0 ≤ r ∧ r < n := by
  obtain ⟨m, rfl⟩ : ∃ m, k = m + 1 := ⟨k - 1, by omega⟩
  unfold spec_l6Rd_pick.f
  have e0 : wrap64 (p + 1) = p + 1 := wrap_id (by omega) (by omega)
  have e1 : wrap64 (p + 1 - 1) = p := by rw [show p + 1 - 1 = p by omega]; exact wrap_id (by omega) (by omega)
  rw [if_neg (by omega), spec_l6Rd_pick.j0, e0, e1]
  by_cases hz : b.length = 0
  · rw [if_pos (by simp [hz])]
    exact ⟨0, rfl, by omega, by omega⟩
  · have hz2 : ((b.length : Int) == 0) = false := by rw [beq_eq_false_iff_ne]; omega
    rw [hz2, if_neg (by decide)]
    by_cases h : p < b.length
    · rw [if_pos h, if_pos hp, if_neg (by omega)]
      have hr := rd_u8 hb p hp h
      rw [wrap_id (x := rd b p) (by omega) (by omega)]
      exact ⟨_, rfl, tmod_in hr.1 hn⟩
    · rw [if_neg h, if_neg (by omega)]
      have hlen : (1 : Int) ≤ b.length := by omega
      have q1 := tmod_in hp hlen
      have e7 : wrap64 (p * 7) = p * 7 := wrap_id (by omega) (by omega)
      have e8 : wrap64 (p * 7 + 3) = p * 7 + 3 := wrap_id (by omega) (by omega)
      rw [e7, e8]
      have q2 := tmod_in (show (0 : Int) ≤ p * 7 + 3 by omega) hlen
      rw [if_pos q1.1, if_pos q1.2, if_pos q2.1, if_pos q2.2, if_neg (by omega)]
      have r1 := rd_u8 hb _ q1.1 q1.2
      have r2 := rd_u8 hb _ q2.1 q2.2
      have q3 := tdiv_in hp hlen
      generalize rd b (Int.tmod p b.length) = x1 at r1
      generalize rd b (Int.tmod (p * 7 + 3) b.length) = x2 at r2
      generalize Int.tdiv p b.length = x3 at q3
      rw [wrap_id (x := x1) (by omega) (by omega), wrap_id (x := x2) (by omega) (by omega), wrap_id (x := x3) (by omega) (by omega), wrap_id (x := x1 * 131) (by omega) (by omega), wrap_id (x := x2 * 1117) (by omega) (by omega),
        wrap_id (x := x1 * 131 + x2 * 1117) (by omega) (by omega), wrap_id (x := p * 29) (by omega) (by omega), wrap_id (x := x1 * 131 + x2 * 1117 + p * 29) (by omega) (by omega), wrap_id (x := x3 * 53) (by omega) (by omega),
        wrap_id (x := x1 * 131 + x2 * 1117 + p * 29 + x3 * 53) (by omega) (by omega)]
      obtain ⟨X, hX⟩ : ∃ X : Nat, x1 * 131 + x2 * 1117 + p * 29 + x3 * 53 = X := ⟨(x1 * 131 + x2 * 1117 + p * 29 + x3 * 53).toNat, by omega⟩
      rw [hX]
      have hXb : X < 1000000000 := by omega
      have q4 := tdiv_in (show (0 : Int) ≤ (X : Int) by omega) (show (1 : Int) ≤ 64 by omega)
      rw [wrap_id (x := Int.tdiv X 64) (by omega) (by omega)]
      obtain ⟨Y, hY⟩ : ∃ Y : Nat, Int.tdiv X 64 = Y := ⟨(Int.tdiv X 64).toNat, by omega⟩
      rw [hY, xor_i64 X Y (by omega) (by omega)]
      exact ⟨_, rfl, tmod_in (by omega) hn⟩
/-- The bytes that the reader takes. -/
theorem open_tells (l : List Int) (h : ∀ x ∈ l, 0 ≤ x ∧ x ≤ 255) : ∃ b, spec_l6Open.f l = some (b, 0) ∧ b.length ≤ 2000 ∧ ∀ x ∈ b, 0 ≤ x ∧ x ≤ 255 := by
  unfold spec_l6Open.f
  by_cases hl : (l.length : Int) > 2000
  · rw [if_pos hl, if_pos (by omega)]
    exact ⟨_, rfl, by rw [List.length_take]; omega, fun x hx => h x (List.mem_of_mem_take hx)⟩
  · rw [if_neg hl]
    exact ⟨_, rfl, by omega, h⟩
/-! ### a ruler that is drawn -/
theorem length_tells (b : List Int) (hb : ∀ x ∈ b, 0 ≤ x ∧ x ≤ 255) (hl : b.length ≤ 2000) (p : Int) (hp : 0 ≤ p) (hp2 : p ≤ 900000) (k : Nat) (hk : 1 ≤ k) :
    ∃ r q, spec_l91Length.f k b p = some (r, q) ∧ p ≤ q ∧ q ≤ p + 3 := by
  unfold spec_l91Length.f
  obtain ⟨r1, h1, _⟩ := pick_tells b hb hl p 12 hp (by omega) (by omega) (by omega) k hk
  obtain ⟨r2, h2, _⟩ := pick_tells b hb hl (p + 1) 6 (by omega) (by omega) (by omega) (by omega) k hk
  obtain ⟨r3, h3, _⟩ := pick_tells b hb hl (p + 1 + 1) 48 (by omega) (by omega) (by omega) (by omega) k hk
  rw [h1]
  simp only [Option.bind_some]
  rw [h2]
  simp only [Option.bind_some]
  rw [h3]
  simp only [Option.bind_some]
  exact ⟨_, _, rfl, by omega, by omega⟩
theorem ruler_draw_l (b : List Int) (hb : ∀ x ∈ b, 0 ≤ x ∧ x ≤ 255) (hl : b.length ≤ 2000) (n : Nat) (hn : 1 ≤ n) (hn9 : n ≤ 12) : ∀ (d k i : Nat) (out : List Int) (p : Int), i + d = n → d + 2 ≤ k → out.length = i → 0 ≤ p → p ≤ 1000 + 3 * i →
    ∃ a q, spec_l91Ruler.l0 k out (n : Int) (i : Int) b p = some (a, q) ∧ a.length = n ∧ 0 ≤ q ∧ q ≤ 1003 + 3 * n := by
  intro d
  induction d with
  | zero =>
    intro k i out p hi hk ho hp hp2
    obtain ⟨m, rfl⟩ : ∃ m, k = m + 1 := ⟨k - 1, by omega⟩
    rw [spec_l91Ruler.l0, if_neg (by omega)]
    obtain ⟨r1, h1, _⟩ := pick_tells b hb hl p 30 hp (by omega) (by omega) (by omega) m (by omega)
    rw [h1]
    simp only [Option.bind_some]
    split
    · obtain ⟨r2, h2, g1, g2⟩ := pick_tells b hb hl (p + 1) n (by omega) (by omega) (by omega) (by omega) m (by omega)
      obtain ⟨r3, h3, _⟩ := pick_tells b hb hl (p + 1 + 1) 2 (by omega) (by omega) (by omega) (by omega) m (by omega)
      rw [h2]
      simp only [Option.bind_some]
      rw [h3]
      simp only [Option.bind_some]
      rw [if_pos g1, if_pos (by omega)]
      exact ⟨_, _, rfl, by rw [List.length_set]; omega, by omega, by omega⟩
    · exact ⟨_, _, rfl, by omega, by omega, by omega⟩
  | succ d ih =>
    intro k i out p hi hk ho hp hp2
    obtain ⟨m, rfl⟩ : ∃ m, k = m + 1 := ⟨k - 1, by omega⟩
    rw [spec_l91Ruler.l0, if_pos (by omega)]
    obtain ⟨r, q, h1, h2, h3⟩ := length_tells b hb hl p hp (by omega) m (by omega)
    rw [h1]
    simp only [Option.bind_some]
    rw [if_pos (by omega), wrap_nat (by omega)]
    exact ih m (i + 1) _ q (by omega) (by omega) (by rw [List.length_append]; simp; omega) (by omega) (by omega)
theorem ruler_draw (b : List Int) (hb : ∀ x ∈ b, 0 ≤ x ∧ x ≤ 255) (hl : b.length ≤ 2000) (k : Nat) (hk : 20 ≤ k) :
    ∃ a q, spec_l91Ruler.f k b 0 8 = some (a, q) ∧ a.length ≤ 8 ∧ 0 ≤ q ∧ q ≤ 1100 := by
  unfold spec_l91Ruler.f
  obtain ⟨r, h, g1, g2⟩ := pick_tells b hb hl 0 8 (by omega) (by omega) (by omega) (by omega) k (by omega)
  rw [h]
  simp only [Option.bind_some]
  obtain ⟨n, hn⟩ : ∃ n : Nat, r = n := ⟨r.toNat, by omega⟩
  subst hn
  rw [show wrap64 (1 + (n : Int)) = ((n + 1 : Nat) : Int) by unfold wrap64; omega]
  obtain ⟨a, q, h1, h2, h3, h4⟩ := ruler_draw_l b hb hl (n + 1) (by omega) (by omega) (n + 1) k 0 [] (0 + 1) (by omega) (by omega) rfl (by omega) (by omega)
  exact ⟨a, q, h1, by omega, h3, by omega⟩
theorem rule_tells (l : List Int) (h : ∀ x ∈ l, 0 ≤ x ∧ x ≤ 255) (k : Nat) (hk : 20 ≤ k) : ∃ a, spec_l91Rule.f k l = some a ∧ a.length ≤ 8 := by
  unfold spec_l91Rule.f
  obtain ⟨b, h1, h2, h3⟩ := open_tells l h
  rw [h1]
  simp only [Option.bind_some]
  obtain ⟨a, q, g1, g2, _⟩ := ruler_draw b h3 h2 k hk
  rw [g1]
  exact ⟨a, rfl, g2⟩
theorem FnExecuteEnds : laws_FnExecuteEnds.Pure := by
  intro l h1 h2 h3
  obtain ⟨K, hK⟩ : ∃ K, K = 5000 := ⟨_, rfl⟩
  refine ⟨K + 603, ?_⟩
  unfold laws_FnExecuteEnds.f
  by_cases hl : (l.length : Int) > 1048576
  · rw [if_pos hl]
  · rw [if_neg hl]
    obtain ⟨a, g1, g2⟩ := rule_tells l (wf_u8 h3) (K + 603) (by omega)
    have hp8 : 2 ^ a.length ≤ 2 ^ 8 := Nat.pow_le_pow_right (by omega) g2
    unfold spec_DrawFoldEnds.f
    rw [g1]
    simp only [Option.bind_some]
    rw [ends_impl a (by omega) (K + 603) (.inl (by omega)), ends_spec a (by omega) (K + 603) (.inl (by omega))]
    simp only [Option.bind_some]
    by_cases hr : isRuler a
    · have h9 := hr.2
      have hx : ∀ y ∈ a, 0 ≤ y ∧ y ≤ 999 := fun y hy => by have := hr.1 y hy; omega
      have hsz := said_size hr.1
      have he1 := ends_in hr
      have he2 := ends_len hr
      have hy : ∀ y ∈ endsOf a, 0 ≤ y ∧ y ≤ 999 := fun y hy => by have := he1 y hy; omega
      have hel := sayAll_len hy
      have hsay := ends_said hr
      rw [if_pos hr]
      simp only
      rw [if_neg (by simp), same_tells (endsOf a) (by omega) (K + 603) (by omega)]
      simp only [Option.bind_some]
      rw [if_pos trivial, Bool.not_true, laws_FnExecuteEnds.j0, if_neg (by decide)]
      have hq : impl_withoutRest.f K a (bytes [101, 110, 100, 115]) = some (bytes (sayAll (endsOf a)), a) := by
        unfold impl_withoutRest.f
        rw [if_pos (show bytes [101, 110, 100, 115] = (⟨#[101, 110, 100, 115]⟩ : ByteArray) from rfl)]
        unfold impl_withoutRest.f_ends
        rw [ends_impl a (by omega) K (.inl (by omega)), if_pos hr]
        simp only [Option.bind_some]
        unfold impl_told.f
        rw [if_pos rfl, if_neg (by omega), numtext_tells (endsOf a) (by omega) _ (fun y hy2 => by have := he1 y hy2; omega) (fun y hy2 => itoa_f y (by have := he1 y hy2; omega)) (by
          have : (Lib.join ((endsOf a).map Lib.itoa) [32]).length ≤ 4 * (endsOf a).length := hel
          show (Lib.join ((endsOf a).map Lib.itoa) [32]).length ≤ 1048576
          omega) K (by omega)]
        rfl
      have hset : impl_withRest.f K [3, 4, 5] (bytes [115, 101, 116]) (bytes (sayAll a)) = some (⟨#[111, 107]⟩, a) := by
        unfold impl_withRest.f
        rw [if_pos (show bytes [115, 101, 116] = (⟨#[115, 101, 116]⟩ : ByteArray) from rfl)]
        exact set_tells K a hr (by omega)
      have hx1 : impl_Execute.f (K + 602) (((⟨#[115, 101, 116, 32]⟩ : ByteArray) ++ bytes (sayAll a)) ++ (⟨#[10, 101, 110, 100, 115, 10]⟩ : ByteArray)) = _ := ask_tells K a hr (by omega) [101, 110, 100, 115] (by decide) (by decide) (by decide) (bytes (sayAll (endsOf a))) (by rw [bytes_size]; exact hsay) hset hq
      obtain ⟨d1, d2⟩ := digits_tells (n := (a.length : Int)) (by omega) (K + 602) (by omega)
      have z1 : ((⟨#[115, 101, 116, 32]⟩ : ByteArray) ++ bytes (sayAll a)).size = 4 + (sayAll a).length := by
        rw [ByteArray.size_append, bytes_size]
        rfl
      have z2 : ((⟨#[111, 107, 10]⟩ : ByteArray) ++ bytes (sayAll (endsOf a))).size = 3 + (sayAll (endsOf a)).length := by
        rw [ByteArray.size_append, bytes_size]
        rfl
      have z3 : (((⟨#[111, 107, 10]⟩ : ByteArray) ++ bytes (sayAll (endsOf a))) ++ (⟨#[10, 115, 116, 105, 99, 107, 115, 32]⟩ : ByteArray)).size = 3 + (sayAll (endsOf a)).length + 8 := by rw [ByteArray.size_append, z2]; rfl
      have z4 : ((((⟨#[111, 107, 10]⟩ : ByteArray) ++ bytes (sayAll (endsOf a))) ++ (⟨#[10, 115, 116, 105, 99, 107, 115, 32]⟩ : ByteArray)) ++ bytes (Lib.itoa (a.length : Int))).size = 3 + (sayAll (endsOf a)).length + 8 + (Lib.itoa (a.length : Int)).length := by rw [ByteArray.size_append, z3, bytes_size]
      rw [spaced_tells a (by omega) hx (K + 602) (by omega)]
      simp only [Option.bind_some]
      rw [if_pos (by rw [bytes_size]; omega), if_pos (by omega), hx1]
      simp only [Option.bind_some]
      rw [spaced_tells (endsOf a) (by omega) hy (K + 602) (by omega)]
      simp only [Option.bind_some]
      rw [if_pos (by rw [bytes_size]; omega), if_pos (by omega), d1]
      simp only [Option.bind_some]
      rw [if_pos (by rw [bytes_size]; omega), if_pos (by omega)]
      exact congrArg some (beq_self_eq_true _)
    · rw [if_neg hr]
      simp only
      rw [if_neg (by simp), same_tells [] (by decide) (K + 603) (by simp)]
      simp only [Option.bind_some]
      rw [if_pos trivial, Bool.not_false, laws_FnExecuteEnds.j0, if_pos rfl, if_pos (by decide), same_tells [] (by decide) (K + 602) (by simp)]
      rfl

end Go.Proofs.YtcmpkabpmmmhoaaGreatDoor.Pure
