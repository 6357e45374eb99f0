/- The law FnPartTwo, as a statement over plain numbers and lists, is proved: what the program's functions compute is what the reference's compute. -/
import Derived.Test.YtcbbeokiolecmaaPFnPartTwox5
import Derived.Laws.Entries
namespace Go.Proofs.Ytcbbeokiolecmaa.Pure
open Go.RowKit Go.Proofs.Ytcbbeokiolecmaa.PFnPartTwo Go.Proofs.YtcbbeokiolecmaaW.PrintWords Go.Proofs.YtcbbeokiolecmaaW.PrintLast
set_option linter.unusedVariables false
set_option linter.unusedSimpArgs false
/-! ### lists of whole numbers -/
theorem wrap_nat {n : Nat} (h : n < 4611686018427387904) : wrap64 ((n : Int) + 1) = ((n + 1 : Nat) : Int) := by unfold wrap64; omega
theorem rd_at {l : List Int} {i : Nat} (h : i < l.length) : rd l (i : Int) = l[i] := by
  unfold rd
  rw [Int.toNat_natCast, List.getD_eq_getElem?_getD, List.getElem?_eq_getElem h]
  rfl
theorem and_one (a : Nat) (ha : a < 4611686018427387904) : Go.bits .and .i64 (a : Int) 1 = ((a % 2 : Nat) : Int) := by
  have h1 : (BitVec.ofInt 64 (a : Int)).toNat = a := by
    rw [BitVec.ofInt_natCast, BitVec.toNat_ofNat]; exact Nat.mod_eq_of_lt (by omega)
  have h2 : (BitVec.ofInt 64 (1 : Int)).toNat = 1 := by decide
  show IntKind.i64.wrap ((BitVec.ofInt 64 (a : Int) &&& BitVec.ofInt 64 (1 : Int)).toNat : Int) = _
  rw [BitVec.toNat_and, h1, h2, Nat.and_one_is_mod]
  have : a % 2 < 2 := Nat.mod_lt _ (by omega)
  generalize a % 2 = c at this
  simp [IntKind.wrap, IntKind.bits, IntKind.signed]
  omega
theorem ite_same {α : Type} {p q : Prop} [Decidable p] [Decidable q] (h : p ↔ q) {a b : α} : (if p then a else b) = if q then a else b := by
  by_cases hq : q
  · rw [if_pos (h.mpr hq), if_pos hq]
  · rw [if_neg (fun x => hq (h.mp x)), if_neg hq]
/-! ### rulers -/
def isRuler (l : List Int) : Prop := (∀ x ∈ l, 1 ≤ x ∧ x ≤ 60) ∧ 1 ≤ l.length ∧ l.length ≤ 9
instance (l : List Int) : Decidable (isRuler l) := by unfold isRuler; infer_instance
theorem spec_in (a b c : Int) : spec_l6In.f a b c = some (decide (b ≤ a ∧ a ≤ c)) := by
  unfold spec_l6In.f
  by_cases h : a ≥ b
  · rw [if_pos h]
    congr 1
    exact decide_eq_decide.mpr ⟨fun x => ⟨h, x⟩, fun x => x.2⟩
  · rw [if_neg h, decide_eq_false (fun x => h x.1)]
theorem impl_ruler_l (l : List Int) (hl : l.length ≤ 1048576) : ∀ (d k i : Nat), i + d = l.length → d + 1 ≤ k →
    impl_isRuler.l0 k l l (l.length : Int) (i : Int) = some (decide ((∀ x ∈ l.drop i, 1 ≤ x ∧ x ≤ 60) ∧ 1 ≤ l.length ∧ l.length ≤ 9)) := by
  intro d
  induction d with
  | zero =>
    intro k i hi hk
    obtain ⟨m, rfl⟩ : ∃ m, k = m + 1 := ⟨k - 1, by omega⟩
    rw [impl_isRuler.l0, if_neg (by omega), List.drop_eq_nil_of_le (by omega)]
    simp only [List.not_mem_nil, false_implies, implies_true, true_and]
    split
    · congr 1
      exact decide_eq_decide.mpr ⟨fun x => by omega, fun x => by omega⟩
    · rw [decide_eq_false (by omega)]
  | succ d ih =>
    intro k i hi hk
    obtain ⟨m, rfl⟩ : ∃ m, k = m + 1 := ⟨k - 1, by omega⟩
    have hil : i < l.length := by omega
    rw [impl_isRuler.l0, if_pos (by omega), if_pos (by omega), if_pos (by omega), rd_at hil, wrap_nat (by omega), ih m (i + 1) (by omega) (by omega), List.drop_eq_getElem_cons hil]
    simp only [List.mem_cons, forall_eq_or_imp]
    split
    · next h => rw [decide_eq_false (fun x => by omega)]
    · next h =>
      split
      · next h => rw [decide_eq_false (fun x => by omega)]
      · next h1 => congr 1; exact decide_eq_decide.mpr ⟨fun x => ⟨⟨⟨by omega, by omega⟩, x.1⟩, x.2⟩, fun x => ⟨x.1.2, x.2⟩⟩
theorem impl_ruler (l : List Int) (hl : l.length ≤ 1048576) (k : Nat) (hk : l.length + 1 ≤ k) : impl_isRuler.f k l = some (decide (isRuler l)) :=
  impl_ruler_l l hl l.length k 0 (by omega) (by omega)
/-- Where one goes along a ruler: at the place, at the least place, at the greatest. -/
def steps : List Int → List Bool → Int × Int × Int → Int × Int × Int
  | x :: l, b :: bs, e => steps l bs (if b = true then e.1 - x else e.1 + x, mn e.2.1 (if b = true then e.1 - x else e.1 + x), mx e.2.2 (if b = true then e.1 - x else e.1 + x))
  | _, _, e => e
/-- The number that bits tell, the first of them being the greatest. -/
def maskTo (bs : List Bool) : Nat → Nat
  | 0 => 0
  | i + 1 => 2 * maskTo bs i + if bs[i]? = some true then 1 else 0
theorem maskTo_lt (bs : List Bool) : ∀ i, maskTo bs i < 2 ^ i
  | 0 => by simp [maskTo]
  | i + 1 => by
    have := maskTo_lt bs i
    rw [maskTo, Nat.pow_succ]
    split <;> omega
theorem maskTo_div (bs : List Bool) : ∀ d i, maskTo bs (i + d) / 2 ^ d = maskTo bs i
  | 0, i => by simp
  | d + 1, i => by
    rw [Nat.pow_succ, Nat.mul_comm, ← Nat.div_div_eq_div_mul, show i + (d + 1) = (i + d) + 1 by omega, maskTo]
    rw [show (2 * maskTo bs (i + d) + if bs[i + d]? = some true then 1 else 0) / 2 = maskTo bs (i + d) by split <;> omega]
    exact maskTo_div bs d i
theorem maskTo_bit (bs : List Bool) (i : Nat) : maskTo bs (i + 1) % 2 = if bs[i]? = some true then 1 else 0 := by
  rw [maskTo]
  split <;> omega
theorem mn_mx_in (a b : Int) : (mn a b = a ∨ mn a b = b) ∧ (mx a b = a ∨ mx a b = b) := by
  unfold mn mx
  constructor <;> split <;> simp
theorem steps_in : ∀ (l : List Int) (bs : List Bool) (p lo hi : Int) (B : Int), (∀ x ∈ l, 1 ≤ x ∧ x ≤ 60) → -B ≤ p → p ≤ B → -B ≤ lo → lo ≤ B → -B ≤ hi → hi ≤ B →
    -(B + 60 * l.length) ≤ (steps l bs (p, lo, hi)).2.1 ∧ (steps l bs (p, lo, hi)).2.1 ≤ B + 60 * l.length ∧ -(B + 60 * l.length) ≤ (steps l bs (p, lo, hi)).2.2 ∧ (steps l bs (p, lo, hi)).2.2 ≤ B + 60 * l.length
  | [], bs, p, lo, hi, B, _, _, _, _, _, _, _ => by unfold steps; simp; omega
  | x :: l, [], p, lo, hi, B, _, _, _, _, _, _, _ => by unfold steps; simp only [List.length_cons]; omega
  | x :: l, b :: bs, p, lo, hi, B, h, h1, h2, h3, h4, h5, h6 => by
    have hx := h x List.mem_cons_self
    have key := fun p' lo' hi' => steps_in l bs p' lo' hi' (B + 60) (fun y hy => h y (List.mem_cons_of_mem _ hy))
    unfold steps
    simp only [List.length_cons]
    have e := mn_mx_in lo (if b = true then p - x else p + x)
    have e' := mn_mx_in hi (if b = true then p - x else p + x)
    have hp : -(B + 60) ≤ (if b = true then p - x else p + x) ∧ (if b = true then p - x else p + x) ≤ B + 60 := by split <;> omega
    generalize (if b = true then p - x else p + x) = q at *
    have := key q (mn lo q) (mx hi q) (by omega) (by omega) (by omega) (by omega) (by omega) (by omega)
    omega
/-- Bytes as bits: 'l' and 'r'. -/
def LRfrom (s : ByteArray) (i : Nat) : Prop := ∀ j : Nat, j < s.size → i ≤ j → bt s (j : Int) = 108 ∨ bt s (j : Int) = 114
instance (s : ByteArray) (i : Nat) : Decidable (LRfrom s i) := by unfold LRfrom; infer_instance
theorem LR_step {s : ByteArray} {i : Nat} (h : i < s.size) : LRfrom s i ↔ (bt s (i : Int) = 108 ∨ bt s (i : Int) = 114) ∧ LRfrom s (i + 1) := by
  unfold LRfrom
  constructor
  · exact fun x => ⟨x i h (Nat.le_refl _), fun j hj h1 => x j hj (by omega)⟩
  · intro x j hj h1
    by_cases hij : j = i
    · subst hij; exact x.1
    · exact x.2 j hj (by omega)
theorem LR_end {s : ByteArray} {i : Nat} (h : s.size ≤ i) : LRfrom s i := fun j h1 h2 => by omega
def bitsOf (s : ByteArray) : List Bool := s.data.toList.map fun c => c.toNat == 108
theorem bitsOf_length (s : ByteArray) : (bitsOf s).length = s.size := by simp [bitsOf]
theorem bitsOf_at (s : ByteArray) (i : Nat) (h : i < s.size) : (bitsOf s)[i]? = some (decide (bt s (i : Int) = 108)) := by
  unfold bitsOf bt
  rw [dif_pos (by simpa using h)]
  have hl : i < s.data.toList.length := by simpa using h
  rw [List.getElem?_map, List.getElem?_eq_getElem hl]
  simp only [Option.map_some, Option.some.injEq, Int.toNat_natCast]
  apply Bool.eq_iff_iff.mpr
  rw [beq_iff_eq, decide_eq_true_eq]
  have : s.data.toList[i] = s[i]'h := by simp [ByteArray.getElem_eq_getElem_data]
  rw [this]
  omega
def spanOf (l : List Int) (s : ByteArray) : Int × Bool :=
  if isRuler l ∧ s.size = l.length ∧ LRfrom s 0 then ((steps l (bitsOf s) (0, 0, 0)).2.2 - (steps l (bitsOf s) (0, 0, 0)).2.1, true) else (0, false)
theorem span_wrap {l : List Int} {bs : List Bool} (hr : isRuler l) : wrap64 ((steps l bs (0, 0, 0)).2.2 - (steps l bs (0, 0, 0)).2.1) = (steps l bs (0, 0, 0)).2.2 - (steps l bs (0, 0, 0)).2.1 := by
  have := steps_in l bs 0 0 0 0 hr.1 (by omega) (by omega) (by omega) (by omega) (by omega) (by omega)
  have := hr.2.2
  unfold wrap64
  omega
/-! ### foldings -/
def bitsN (n m : Nat) : List Bool := (List.range n).map fun i => decide (m / 2 ^ (n - 1 - i) % 2 = 1)
theorem bitsN_length (n m : Nat) : (bitsN n m).length = n := by simp [bitsN]
theorem bitsN_at (n m i : Nat) (h : i < n) : (bitsN n m)[i]? = some (decide (m / 2 ^ (n - 1 - i) % 2 = 1)) := by
  simp [bitsN, h]
theorem maskTo_bitsN (n m : Nat) (hm : m < 2 ^ n) : ∀ i, i ≤ n → maskTo (bitsN n m) i = m / 2 ^ (n - i)
  | 0, _ => by rw [maskTo, Nat.sub_zero, Nat.div_eq_of_lt hm]
  | i + 1, h => by
    rw [maskTo, maskTo_bitsN n m hm i (by omega), bitsN_at n m i (by omega), show n - i = (n - (i + 1)) + 1 by omega, Nat.pow_succ, ← Nat.div_div_eq_div_mul, show n - 1 - i = n - (i + 1) by omega]
    generalize m / 2 ^ (n - (i + 1)) = q
    simp only [Option.some.injEq, decide_eq_true_eq]
    split <;> omega
theorem maskTo_bitsN_all (n m : Nat) (hm : m < 2 ^ n) : maskTo (bitsN n m) n = m := by
  rw [maskTo_bitsN n m hm n (Nat.le_refl _), Nat.sub_self, Nat.pow_zero, Nat.div_one]
def textN (bs : List Bool) : List Int := bs.map fun b => if b = true then 108 else 114
theorem textN_length (bs : List Bool) : (textN bs).length = bs.length := by simp [textN]
/-- The span of a folding. -/
def spN (l : List Int) (m : Nat) : Int := (steps l (bitsN l.length m) (0, 0, 0)).2.2 - (steps l (bitsN l.length m) (0, 0, 0)).2.1
theorem fold1_l (l : List Int) (bs : List Bool) (hr : isRuler l) (hb : bs.length = l.length) : ∀ (d k i : Nat) (p lo hi : Int), i + d = l.length → d + 1 ≤ k → -60 * i ≤ p → p ≤ 60 * i →
    impl_foldings.l1 k l ((maskTo bs l.length : Nat) : Int) (textN (bs.take i)) p lo hi (i : Int) = some (textN bs, steps (l.drop i) (bs.drop i) (p, lo, hi)) := by
  intro d
  induction d with
  | zero =>
    intro k i p lo hi hi' hk h1 h2
    obtain ⟨m, rfl⟩ : ∃ m, k = m + 1 := ⟨k - 1, by omega⟩
    rw [impl_foldings.l1, if_neg (by omega), List.drop_eq_nil_of_le (by omega), List.take_of_length_le (by omega)]
    rfl
  | succ d ih =>
    intro k i p lo hi hi' hk h1 h2
    obtain ⟨m, rfl⟩ : ∃ m, k = m + 1 := ⟨k - 1, by omega⟩
    have hil : i < l.length := by omega
    obtain ⟨r1, r2, r3⟩ := hr
    have hx := r1 l[i] (List.getElem_mem hil)
    have w1 : wrap64 ((l.length : Int) - 1) = (l.length : Int) - 1 := by unfold wrap64; omega
    have w2 : wrap64 ((l.length : Int) - 1 - i) = (d : Int) := by unfold wrap64; omega
    have w3 : wrap64 (p - l[i]) = p - l[i] := by unfold wrap64; omega
    have w4 : wrap64 (p + l[i]) = p + l[i] := by unfold wrap64; omega
    have hM := maskTo_lt bs l.length
    have hM2 : maskTo bs l.length < 512 := Nat.lt_of_lt_of_le hM (Nat.pow_le_pow_right (by omega) r3 : 2 ^ l.length ≤ 2 ^ 9)
    have hsh : shr .i64 ((maskTo bs l.length : Nat) : Int) (d : Int) = ((maskTo bs (i + 1) : Nat) : Int) := by
      unfold shr
      rw [Int.toNat_natCast, show min d (IntKind.i64.bits) = d by simp only [IntKind.bits]; omega]
      rw [← maskTo_div bs d (i + 1), show i + 1 + d = l.length by omega]
      norm_cast
    have hM3 : maskTo bs (i + 1) < 4611686018427387904 := by
      have := maskTo_div bs d (i + 1)
      rw [show i + 1 + d = l.length by omega] at this
      have := Nat.div_le_self (maskTo bs l.length) (2 ^ d)
      omega
    have hbi : i < bs.length := by omega
    have ht : (textN (bs.take i)).length < 1000 := by rw [textN_length, List.length_take]; omega
    have htk : textN (bs.take (i + 1)) = textN (bs.take i) ++ [if bs[i] = true then 108 else 114] := by
      unfold textN
      rw [List.take_succ_eq_append_getElem hbi, List.map_append]
      rfl
    rw [impl_foldings.l1, if_pos (by omega), if_pos (by omega), w1, w2, if_pos (by omega), if_pos ht, hsh, and_one _ hM3, maskTo_bit, rd_at hil, w3, w4, wrap_nat (by omega), List.drop_eq_getElem_cons hil, List.drop_eq_getElem_cons hbi, List.getElem?_eq_getElem hbi]
    cases hbb : bs[i] with
    | true =>
      rw [hbb, if_pos rfl] at htk
      rw [if_neg (by decide), ← htk, ih m (i + 1) _ _ _ (by omega) (by omega) (by omega) (by omega)]
      rfl
    | false =>
      rw [hbb, if_neg (by decide)] at htk
      rw [if_pos (by decide), ← htk, ih m (i + 1) _ _ _ (by omega) (by omega) (by omega) (by omega)]
      rfl
theorem fold1 (l : List Int) (hr : isRuler l) (m : Nat) (hm : m < 2 ^ l.length) (k : Nat) (hk : l.length + 1 ≤ k) :
    impl_foldings.l1 k l (m : Int) [] 0 0 0 0 = some (textN (bitsN l.length m), steps l (bitsN l.length m) (0, 0, 0)) := by
  have := fold1_l l (bitsN l.length m) hr (bitsN_length _ _) l.length k 0 0 0 0 (by omega) (by omega) (by omega) (by omega)
  rw [maskTo_bitsN_all _ _ hm] at this
  exact this
theorem pow9 {l : List Int} (hr : isRuler l) : 2 ^ l.length ≤ 512 := (Nat.pow_le_pow_right (by omega) hr.2.2 : 2 ^ l.length ≤ 2 ^ 9)
theorem shl_len {l : List Int} (hr : isRuler l) : shl .i64 1 (l.length : Int) = ((2 ^ l.length : Nat) : Int) := by
  have h9 := pow9 hr
  have hl := hr.2.2
  unfold shl
  rw [Int.toNat_natCast, show min l.length (IntKind.i64.bits) = l.length by simp only [IntKind.bits]; omega, Int.one_mul]
  have e : (2 : Int) ^ l.length = ((2 ^ l.length : Nat) : Int) := by norm_cast
  rw [e]
  generalize 2 ^ l.length = q at h9
  simp [IntKind.wrap, IntKind.bits, IntKind.signed]
  omega
theorem folds_l {S : Type} (step : S → ByteArray → Int → Int → Option S) (l : List Int) (hr : isRuler l) (Inv : Nat → S → Prop)
    (hstep : ∀ m s, m < 2 ^ l.length → Inv m s → ∃ s', step s (strOfNums (textN (bitsN l.length m))) (steps l (bitsN l.length m) (0, 0, 0)).1 (spN l m) = some s' ∧ Inv (m + 1) s') :
    ∀ (d k m : Nat) (s : S), m + d = 2 ^ l.length → d + l.length + 2 ≤ k → Inv m s → ∃ s', impl_foldings.l0 step k l ((2 ^ l.length : Nat) : Int) s (m : Int) = some s' ∧ Inv (2 ^ l.length) s' := by
  have h9 := pow9 hr
  intro d
  induction d with
  | zero =>
    intro k m s hm hk hi
    obtain ⟨j, rfl⟩ : ∃ j, k = j + 1 := ⟨k - 1, by omega⟩
    have : m = 2 ^ l.length := by omega
    subst this
    rw [impl_foldings.l0, if_neg (by omega)]
    exact ⟨s, rfl, hi⟩
  | succ d ih =>
    intro k m s hm hk hi
    obtain ⟨j, rfl⟩ : ∃ j, k = j + 1 := ⟨k - 1, by omega⟩
    obtain ⟨s', h1, h2⟩ := hstep m s (by omega) hi
    rw [impl_foldings.l0, if_pos (by omega), fold1 l hr m (by omega) j (by omega)]
    simp only [Option.bind_some]
    rw [span_wrap hr]
    unfold spN at h1
    rw [h1]
    simp only [Option.bind_some]
    rw [wrap_nat (by omega)]
    exact ih j (m + 1) s' (by omega) (by omega) h2
theorem folds {S : Type} (step : S → ByteArray → Int → Int → Option S) (l : List Int) (hr : isRuler l) (Inv : Nat → S → Prop)
    (hstep : ∀ m s, m < 2 ^ l.length → Inv m s → ∃ s', step s (strOfNums (textN (bitsN l.length m))) (steps l (bitsN l.length m) (0, 0, 0)).1 (spN l m) = some s' ∧ Inv (m + 1) s')
    (k : Nat) (hk : 2 ^ l.length + l.length + 2 ≤ k) (s : S) (hs : Inv 0 s) : ∃ s', impl_foldings.f step k l s = some s' ∧ Inv (2 ^ l.length) s' := by
  unfold impl_foldings.f
  rw [shl_len hr]
  exact folds_l step l hr Inv hstep (2 ^ l.length) k 0 s (by omega) hk hs
/-! ### bundles -/
def asc (l : List Int) : Prop := ∀ j : Nat, j < l.length → 0 < j → rd l ((j - 1 : Nat) : Int) ≤ rd l (j : Int)
instance (l : List Int) : Decidable (asc l) := by unfold asc; infer_instance
def isBundle (l : List Int) : Prop := isRuler l ∧ asc l
instance (l : List Int) : Decidable (isBundle l) := by unfold isBundle; infer_instance
theorem all_rd (l : List Int) (p : Int → Prop) : (∀ x ∈ l, p x) ↔ ∀ j : Nat, j < l.length → p (rd l (j : Int)) := by
  constructor
  · intro h j hj
    rw [rd_at hj]
    exact h _ (List.getElem_mem hj)
  · intro h x hx
    obtain ⟨j, hj, rfl⟩ := List.mem_iff_getElem.mp hx
    rw [← rd_at hj]
    exact h j hj
theorem wrap_pred {n : Nat} (h0 : 0 < n) (h : n < 4611686018427387904) : wrap64 ((n : Int) - 1) = ((n - 1 : Nat) : Int) := by unfold wrap64; omega
def l1Rest (l : List Int) (i : Nat) : Prop := (∀ j : Nat, j < l.length → i ≤ j → (1 ≤ rd l (j : Int) ∧ rd l (j : Int) ≤ 60) ∧ (0 < j → rd l ((j - 1 : Nat) : Int) ≤ rd l (j : Int))) ∧ 1 ≤ l.length ∧ l.length ≤ 9
instance (l : List Int) (i : Nat) : Decidable (l1Rest l i) := by unfold l1Rest; infer_instance
theorem l1Rest_step {l : List Int} {i : Nat} (h : i < l.length) : l1Rest l i ↔ ((1 ≤ rd l (i : Int) ∧ rd l (i : Int) ≤ 60) ∧ (0 < i → rd l ((i - 1 : Nat) : Int) ≤ rd l (i : Int))) ∧ l1Rest l (i + 1) := by
  unfold l1Rest
  constructor
  · rintro ⟨h1, h2⟩
    exact ⟨h1 i h (Nat.le_refl _), fun j hj hij => h1 j hj (by omega), h2⟩
  · rintro ⟨h1, h2, h3⟩
    refine ⟨fun j hj hij => ?_, h3⟩
    rcases Nat.lt_or_ge i j with h' | h'
    · exact h2 j hj h'
    · obtain rfl : i = j := by omega
      exact h1
theorem spec_bundle_l (l : List Int) (hl : l.length ≤ 1048576) : ∀ (d k i : Nat), i + d = l.length → d + 1 ≤ k → spec_l1Bundle.l0 k l (i : Int) = some (decide (l1Rest l i)) := by
  intro d
  induction d with
  | zero =>
    intro k i hi hk
    obtain ⟨m, rfl⟩ : ∃ m, k = m + 1 := ⟨k - 1, by omega⟩
    rw [spec_l1Bundle.l0, if_neg (by omega), spec_in]
    simp only [Option.bind_some]
    congr 1
    exact decide_eq_decide.mpr ⟨fun x => ⟨fun j hj hij => by omega, by omega⟩, fun x => by have := x.2; omega⟩
  | succ d ih =>
    intro k i hi hk
    obtain ⟨m, rfl⟩ : ∃ m, k = m + 1 := ⟨k - 1, by omega⟩
    have hil : i < l.length := by omega
    have st := l1Rest_step hil
    have ih := ih m (i + 1) (by omega) (by omega)
    rw [spec_l1Bundle.l0, if_pos (by omega), if_pos (by omega), spec_in, wrap_nat (by omega), ih]
    simp only [Option.bind_some, decide_eq_true_eq]
    by_cases h1 : 1 ≤ rd l (i : Int) ∧ rd l (i : Int) ≤ 60
    · rw [if_pos h1]
      by_cases h2 : 0 < i
      · rw [if_pos (by omega), wrap_pred h2 (by omega), if_pos (by omega), if_pos (by omega)]
        by_cases h3 : rd l (i : Int) < rd l ((i - 1 : Nat) : Int)
        · rw [if_pos h3, decide_eq_false (fun x => by have := (st.mp x).1.2 h2; omega)]
        · rw [if_neg h3]
          congr 1
          exact decide_eq_decide.mpr ⟨fun x => st.mpr ⟨⟨h1, fun _ => by omega⟩, x⟩, fun x => (st.mp x).2⟩
      · rw [if_neg (by omega)]
        congr 1
        exact decide_eq_decide.mpr ⟨fun x => st.mpr ⟨⟨h1, fun h => absurd h h2⟩, x⟩, fun x => (st.mp x).2⟩
    · rw [if_neg h1, decide_eq_false (fun x => h1 (st.mp x).1.1)]
theorem spec_bundle (l : List Int) (hl : l.length ≤ 1048576) (k : Nat) (hk : l.length + 1 ≤ k) : spec_l1Bundle.f k l = some (decide (isBundle l)) := by
  unfold spec_l1Bundle.f
  have := spec_bundle_l l hl l.length k 0 (by omega) hk
  rw [show ((0 : Nat) : Int) = 0 from rfl] at this
  rw [this]
  congr 1
  refine decide_eq_decide.mpr ?_
  unfold isBundle isRuler asc l1Rest
  rw [all_rd l (fun x => 1 ≤ x ∧ x ≤ 60)]
  exact ⟨fun x => ⟨⟨fun j hj => (x.1 j hj (by omega)).1, x.2⟩, fun j hj h0 => (x.1 j hj (by omega)).2 h0⟩, fun x => ⟨fun j hj _ => ⟨x.1.1 j hj, x.2 j hj⟩, x.1.2⟩⟩
theorem less_tells (a b : Int) : cmp_Less_int.f a b = some (decide (a < b)) := by
  unfold cmp_Less_int.f cmp_isNaN_int.f
  simp
theorem sorted_l (l : List Int) (hl : l.length ≤ 1048576) : ∀ (i k : Nat), i + 1 ≤ k → i < l.length → slices_IsSorted_int_int.l0 k l (i : Int) = some (decide (∀ j : Nat, j < i + 1 → 0 < j → rd l ((j - 1 : Nat) : Int) ≤ rd l (j : Int))) := by
  intro i
  induction i with
  | zero =>
    intro k hk hi
    obtain ⟨m, rfl⟩ : ∃ m, k = m + 1 := ⟨k - 1, by omega⟩
    rw [slices_IsSorted_int_int.l0, if_neg (by omega), decide_eq_true (fun j hj h0 => by omega)]
  | succ i ih =>
    intro k hk hi
    obtain ⟨m, rfl⟩ : ∃ m, k = m + 1 := ⟨k - 1, by omega⟩
    rw [slices_IsSorted_int_int.l0, if_pos (by omega), if_pos (by omega), if_pos (by omega), wrap_pred (by omega) (by omega), if_pos (by omega), if_pos (by omega), less_tells, show i + 1 - 1 = i from rfl, ih m (by omega) (by omega)]
    simp only [Option.bind_some, decide_eq_true_eq]
    by_cases h : rd l ((i + 1 : Nat) : Int) < rd l (i : Int)
    · rw [if_pos h, decide_eq_false (fun x => by have := x (i + 1) (by omega) (by omega); rw [show i + 1 - 1 = i from rfl] at this; omega)]
    · rw [if_neg h]
      congr 1
      refine decide_eq_decide.mpr ⟨fun x j hj h0 => ?_, fun x j hj h0 => x j (by omega) h0⟩
      rcases Nat.lt_or_ge j (i + 1) with h' | h'
      · exact x j h' h0
      · obtain rfl : j = i + 1 := by omega
        rw [show i + 1 - 1 = i from rfl]
        omega
theorem impl_bundle (l : List Int) (hl : l.length ≤ 1048576) (k : Nat) (hk : l.length + 1 ≤ k) : impl_StickIn.f k l = some (decide (isBundle l)) := by
  unfold impl_StickIn.f
  rw [impl_ruler l hl k hk]
  simp only [Option.bind_some, decide_eq_true_eq]
  by_cases h : isRuler l
  · have h1 := h.2.1
    rw [if_pos h]
    unfold slices_IsSorted_int_int.f
    rw [wrap_pred (by omega) (by omega), sorted_l l hl (l.length - 1) k (by omega) (by omega)]
    simp only [Option.bind_some]
    congr 1
    refine decide_eq_decide.mpr ?_
    rw [show l.length - 1 + 1 = l.length by omega]
    exact ⟨fun x => ⟨h, x⟩, fun x => x.2⟩
  · rw [if_neg h, decide_eq_false (fun x => h x.1)]
theorem sum_l (l : List Int) (hl : l.length ≤ 100) (hx : ∀ x ∈ l, 1 ≤ x ∧ x ≤ 60) : ∀ (d k i : Nat) (s : Int), i + d = l.length → d + 1 ≤ k → 0 ≤ s → s ≤ 60 * i →
    impl_sum.l0 k s l (l.length : Int) (i : Int) = some (s + (l.drop i).sum) := by
  intro d
  induction d with
  | zero =>
    intro k i s hi hk h0 h1
    obtain ⟨m, rfl⟩ : ∃ m, k = m + 1 := ⟨k - 1, by omega⟩
    rw [impl_sum.l0, if_neg (by omega), List.drop_eq_nil_of_le (by omega)]
    simp
  | succ d ih =>
    intro k i s hi hk h0 h1
    obtain ⟨m, rfl⟩ : ∃ m, k = m + 1 := ⟨k - 1, by omega⟩
    have hil : i < l.length := by omega
    have hx := hx l[i] (List.getElem_mem hil)
    have w : wrap64 (s + l[i]) = s + l[i] := by unfold wrap64; omega
    rw [impl_sum.l0, if_pos (by omega), if_pos (by omega), if_pos (by omega), rd_at hil, w, wrap_nat (by omega), ih m (i + 1) _ (by omega) (by omega) (by omega) (by omega), List.drop_eq_getElem_cons hil, List.sum_cons]
    congr 1
    omega
theorem sum_tells (l : List Int) (hl : l.length ≤ 100) (hx : ∀ x ∈ l, 1 ≤ x ∧ x ≤ 60) (k : Nat) (hk : l.length + 1 ≤ k) : impl_sum.f k l = some l.sum := by
  have := sum_l l hl hx l.length k 0 0 (by omega) hk (by omega) (by omega)
  unfold impl_sum.f
  rw [show ((0 : Nat) : Int) = 0 from rfl] at this
  rw [this]
  simp
theorem ssum_l (l : List Int) (hl : l.length ≤ 100) (hx : ∀ x ∈ l, 1 ≤ x ∧ x ≤ 60) : ∀ (d k i : Nat) (s : Int), i + d = l.length → d + 1 ≤ k → 0 ≤ s → s ≤ 60 * i →
    spec_l1Sum.l0 k l s (i : Int) = some (s + (l.drop i).sum) := by
  intro d
  induction d with
  | zero =>
    intro k i s hi hk h0 h1
    obtain ⟨m, rfl⟩ : ∃ m, k = m + 1 := ⟨k - 1, by omega⟩
    rw [spec_l1Sum.l0, if_neg (by omega), List.drop_eq_nil_of_le (by omega)]
    simp
  | succ d ih =>
    intro k i s hi hk h0 h1
    obtain ⟨m, rfl⟩ : ∃ m, k = m + 1 := ⟨k - 1, by omega⟩
    have hil : i < l.length := by omega
    have hx := hx l[i] (List.getElem_mem hil)
    have w : wrap64 (s + l[i]) = s + l[i] := by unfold wrap64; omega
    rw [spec_l1Sum.l0, if_pos (by omega), if_pos (by omega), rd_at hil, w, wrap_nat (by omega), ih m (i + 1) _ (by omega) (by omega) (by omega) (by omega), List.drop_eq_getElem_cons hil, List.sum_cons]
    congr 1
    omega
theorem ssum_tells (l : List Int) (hl : l.length ≤ 100) (hx : ∀ x ∈ l, 1 ≤ x ∧ x ≤ 60) (k : Nat) (hk : l.length + 1 ≤ k) : spec_l1Sum.f k l = some l.sum := by
  have := ssum_l l hl hx l.length k 0 0 (by omega) hk (by omega) (by omega)
  unfold spec_l1Sum.f
  rw [show ((0 : Nat) : Int) = 0 from rfl] at this
  rw [this]
  simp
/-! ### counting -/
def cntR : Nat → (Nat → Bool) → Nat
  | 0, _ => 0
  | N + 1, g => cntR N g + if g N = true then 1 else 0
theorem cntR_le (g : Nat → Bool) : ∀ N, cntR N g ≤ N
  | 0 => Nat.le_refl _
  | N + 1 => by
    have := cntR_le g N
    rw [cntR]
    split <;> omega
theorem cntR_congr {g h : Nat → Bool} : ∀ N, (∀ i, i < N → g i = h i) → cntR N g = cntR N h
  | 0, _ => rfl
  | N + 1, e => by rw [cntR, cntR, cntR_congr N (fun i hi => e i (by omega)), e N (by omega)]
theorem cntR_add (g : Nat → Bool) (N : Nat) : ∀ M, cntR (N + M) g = cntR N g + cntR M fun i => g (N + i)
  | 0 => rfl
  | M + 1 => by rw [← Nat.add_assoc, cntR, cntR, cntR_add g N M]; omega
theorem cntR_two (g : Nat → Bool) : ∀ N, cntR (2 * N) g = cntR N (fun i => g (2 * i)) + cntR N fun i => g (2 * i + 1)
  | 0 => rfl
  | N + 1 => by rw [show 2 * (N + 1) = 2 * N + 1 + 1 by omega, cntR, cntR, cntR, cntR, cntR_two g N]; omega
/-- The number of ways to set signs before the sticks so that the sum is t. -/
def sgn : List Int → Int → Nat
  | [], t => if t = 0 then 1 else 0
  | x :: l, t => sgn l (t - x) + sgn l (t + x)
theorem sgn_neg : ∀ (l : List Int) (t : Int), sgn l (-t) = sgn l t
  | [], t => by
    unfold sgn
    by_cases h : t = 0
    · rw [if_pos h, if_pos (by omega)]
    · rw [if_neg h, if_neg (by omega)]
  | x :: l, t => by
    rw [sgn, sgn, show -t - x = -(t + x) by omega, show -t + x = -(t - x) by omega, sgn_neg l (t + x), sgn_neg l (t - x)]
    omega
/-- The sum of the sticks that a mask takes, the first of them by the lowest bit. -/
def selN : List Int → Nat → Int
  | [], _ => 0
  | x :: l, m => ((m % 2 : Nat) : Int) * x + selN l (m / 2)
theorem selN_odd (x : Int) (l : List Int) (i : Nat) : selN (x :: l) (2 * i + 1) = x + selN l i := by
  rw [selN, show (2 * i + 1) % 2 = 1 by omega, show (2 * i + 1) / 2 = i by omega]
  omega
theorem selN_even (x : Int) (l : List Int) (i : Nat) : selN (x :: l) (2 * i) = selN l i := by
  rw [selN, show (2 * i) % 2 = 0 by omega, show (2 * i) / 2 = i by omega]
  omega
theorem sel_count : ∀ (l : List Int) (t : Int), cntR (2 ^ l.length) (fun m => decide (2 * selN l m - l.sum = t)) = sgn l t
  | [], t => by
    by_cases h : t = 0
    · subst h
      rfl
    · simp [cntR, selN, sgn, h, Ne.symm h]
  | x :: l, t => by
    rw [List.length_cons, Nat.pow_succ, Nat.mul_comm, cntR_two, sgn, ← sel_count l (t - x), ← sel_count l (t + x), Nat.add_comm]
    congr 1
    · refine cntR_congr _ fun i _ => ?_
      rw [selN_odd, List.sum_cons, decide_eq_decide]
      omega
    · refine cntR_congr _ fun i _ => ?_
      rw [selN_even, List.sum_cons, decide_eq_decide]
      omega
theorem odd_count (x : Int) (l : List Int) : 2 * cntR (2 ^ l.length) (fun i => decide (2 * selN (x :: l) (2 * i + 1) = (x :: l).sum)) = sgn (x :: l) 0 := by
  rw [sgn, show (0 : Int) - x = -(0 + x) by omega, sgn_neg, ← sgn_neg l (0 + x), ← sel_count l (-(0 + x)), cntR_congr (h := fun m => decide (2 * selN l m - l.sum = -(0 + x)))]
  · omega
  · intro i _
    rw [selN_odd, List.sum_cons, decide_eq_decide]
    omega
theorem two_pow_bit (n m : Nat) (j : Nat) (hj : j ≤ n) (h2 : j < n) (b : Nat) : (b * 2 ^ n + m) / 2 ^ j % 2 = m / 2 ^ j % 2 := by
  have e : 2 ^ n = 2 ^ j * (2 * 2 ^ (n - j - 1)) := by
    rw [show (2 : Nat) * 2 ^ (n - j - 1) = 2 ^ (n - j - 1 + 1) by rw [Nat.pow_succ]; omega, ← Nat.pow_add]
    congr 1
    omega
  have hp : 0 < 2 ^ j := Nat.pow_pos (by omega)
  rw [e, show b * (2 ^ j * (2 * 2 ^ (n - j - 1))) = 2 ^ j * (b * (2 * 2 ^ (n - j - 1))) by rw [Nat.mul_left_comm], Nat.mul_add_div hp, show b * (2 * 2 ^ (n - j - 1)) = 2 * (b * 2 ^ (n - j - 1)) by rw [Nat.mul_left_comm]]
  omega
theorem bits_cons (n m b : Nat) (hm : m < 2 ^ n) (hb : b < 2) : bitsN (n + 1) (b * 2 ^ n + m) = decide (b = 1) :: bitsN n m := by
  apply List.ext_getElem?
  intro i
  rcases Nat.lt_or_ge i (n + 1) with h | h
  · rw [bitsN_at _ _ _ h]
    cases i with
    | zero =>
      have hp : 0 < 2 ^ n := Nat.pow_pos (by omega)
      rw [List.getElem?_cons_zero, show n + 1 - 1 - 0 = n by omega, show (b * 2 ^ n + m) / 2 ^ n = b by rw [Nat.mul_comm, Nat.mul_add_div hp, Nat.div_eq_of_lt hm]; omega, show b % 2 = b by omega]
    | succ i =>
      rw [List.getElem?_cons_succ, bitsN_at _ _ _ (by omega), two_pow_bit n m _ (by omega) (by omega), show n + 1 - 1 - (i + 1) = n - 1 - i by omega]
  · rw [List.getElem?_eq_none (by rw [bitsN_length]; omega), List.getElem?_eq_none (by rw [List.length_cons, bitsN_length]; omega)]
def finN : List Int → List Bool → Int
  | x :: l, b :: bs => (if b = true then -x else x) + finN l bs
  | _, _ => 0
theorem steps_fin : ∀ (l : List Int) (bs : List Bool) (e : Int × Int × Int), (steps l bs e).1 = e.1 + finN l bs
  | [], _, e => by simp [steps, finN]
  | x :: l, [], e => by simp [steps, finN]
  | x :: l, b :: bs, e => by
    rw [steps, steps_fin, finN]
    dsimp only
    split <;> omega
theorem fin_count : ∀ (l : List Int) (t : Int), cntR (2 ^ l.length) (fun m => decide (finN l (bitsN l.length m) = t)) = sgn l t
  | [], t => by
    by_cases h : t = 0
    · subst h
      rfl
    · simp [cntR, finN, sgn, h, Ne.symm h]
  | x :: l, t => by
    rw [List.length_cons, Nat.pow_succ, show 2 ^ l.length * 2 = 2 ^ l.length + 2 ^ l.length by omega, cntR_add, sgn, ← fin_count l (t - x), ← fin_count l (t + x)]
    congr 1
    · refine cntR_congr _ fun i hi => ?_
      have := bits_cons l.length i 0 hi (by omega)
      rw [Nat.zero_mul, Nat.zero_add] at this
      rw [this, decide_eq_decide]
      simp only [finN]
      rw [if_neg (by decide)]
      omega
    · refine cntR_congr _ fun i hi => ?_
      have := bits_cons l.length i 1 hi (by omega)
      rw [Nat.one_mul] at this
      rw [this, decide_eq_decide]
      simp only [finN]
      rw [if_pos (by decide)]
      omega
/-! ### impl.FoldWays -/
theorem ways_tells (l : List Int) (hr : isRuler l) (hl : l.length ≤ 1048576) (k : Nat) (hk : l.length + 600 ≤ k) : impl_FoldWays.f k l = some ((sgn l 0 : Int), true) := by
  have h9 := pow9 hr
  have hn := hr.2.2
  unfold impl_FoldWays.f
  rw [impl_ruler l hl k (by omega)]
  simp only [Option.bind_some]
  rw [if_pos (by simpa using hr)]
  obtain ⟨s', e1, e2⟩ := folds impl_FoldWays.step l hr (fun m s => s = (cntR m (fun m => decide (finN l (bitsN l.length m) = 0)) : Nat)) (by
    intro m s hm hs
    subst hs
    refine ⟨_, rfl, ?_⟩
    have hc := cntR_le (fun m => decide (finN l (bitsN l.length m) = 0)) m
    rw [steps_fin, cntR]
    simp only [Int.zero_add, decide_eq_true_eq]
    split
    · unfold wrap64
      omega
    · omega) k (by omega) 0 rfl
  rw [e1, e2, fin_count]
  rfl
/-! ### PartTwo -/
theorem shr_at (m i : Nat) (hm : m < 1024) (hi : i ≤ 60) : shr .i64 (m : Int) (i : Int) = ((m / 2 ^ i : Nat) : Int) := by
  unfold shr
  rw [Int.toNat_natCast, show min i (IntKind.i64.bits) = i by simp only [IntKind.bits]; omega]
  norm_cast
theorem selN_drop {l : List Int} {i m : Nat} (h : i < l.length) : selN (l.drop i) (m / 2 ^ i) = ((m / 2 ^ i % 2 : Nat) : Int) * rd l (i : Int) + selN (l.drop (i + 1)) (m / 2 ^ (i + 1)) := by
  rw [List.drop_eq_getElem_cons h, selN, rd_at h, Nat.pow_succ, Nat.div_div_eq_div_mul]
theorem two_in {l : List Int} (hr : isRuler l) {i : Nat} (h : i < l.length) : 1 ≤ rd l (i : Int) ∧ rd l (i : Int) ≤ 60 := by
  rw [rd_at h]
  exact hr.1 _ (List.getElem_mem h)
theorem bit_mul (q : Nat) (x : Int) : (((q % 2 : Nat) : Int)) * x = if q % 2 = 1 then x else 0 := by
  rcases Nat.mod_two_eq_zero_or_one q with h | h <;> rw [h] <;> simp
theorem impl_two1 (l : List Int) (hr : isRuler l) (c : Int) (m : Nat) (hm : m < 1024) (K : Nat) : ∀ (d i : Nat) (s : Int), i + d = l.length → 0 ≤ s → s ≤ 60 * i →
    impl_PartTwo.l1 (K + d + 1) l c (m : Int) s l (l.length : Int) (i : Int) = impl_PartTwo.l1 (K + 1) l c (m : Int) (s + selN (l.drop i) (m / 2 ^ i)) l (l.length : Int) (l.length : Int) := by
  have hn := hr.2.2
  intro d
  induction d with
  | zero =>
    intro i s hi h1 h2
    rw [show i = l.length by omega, List.drop_length, selN, Int.add_zero]
  | succ d ih =>
    intro i s hi h1 h2
    have hx := two_in hr (show i < l.length by omega)
    have hq : m / 2 ^ i < 4611686018427387904 := Nat.lt_of_le_of_lt (Nat.div_le_self _ _) (by omega)
    rw [show K + (d + 1) + 1 = (K + d + 1) + 1 by omega, impl_PartTwo.l1, if_pos (by omega), if_pos (by omega), if_pos (by omega), shr_at m i hm (by omega), and_one _ hq, selN_drop (by omega), Int.mul_comm (rd l (i : Int)), bit_mul, wrap_nat (by omega)]
    generalize rd l (i : Int) = x at hx
    by_cases hb : m / 2 ^ i % 2 = 1
    · rw [if_pos hb, show wrap64 (s + wrap64 x) = s + x by unfold wrap64; omega, ih (i + 1) _ (by omega) (by omega) (by omega), Int.add_assoc]
    · rw [if_neg hb, show wrap64 (s + wrap64 0) = s by unfold wrap64; omega, ih (i + 1) _ (by omega) (by omega) (by omega), Int.zero_add]
theorem spec_two1 (l : List Int) (hr : isRuler l) (c : Int) (m : Nat) (hm : m < 1024) (K : Nat) : ∀ (d i : Nat) (s : Int), i + d = l.length → 0 ≤ s → s ≤ 60 * i →
    spec_PartTwo.l1 (K + d + 1) l c (m : Int) s (i : Int) = spec_PartTwo.l1 (K + 1) l c (m : Int) (s + selN (l.drop i) (m / 2 ^ i)) (l.length : Int) := by
  have hn := hr.2.2
  intro d
  induction d with
  | zero =>
    intro i s hi h1 h2
    rw [show i = l.length by omega, List.drop_length, selN, Int.add_zero]
  | succ d ih =>
    intro i s hi h1 h2
    have hx := two_in hr (show i < l.length by omega)
    have hq : m / 2 ^ i < 4611686018427387904 := Nat.lt_of_le_of_lt (Nat.div_le_self _ _) (by omega)
    rw [show K + (d + 1) + 1 = (K + d + 1) + 1 by omega, spec_PartTwo.l1, if_pos (by omega), if_pos (by omega), shr_at m i hm (by omega), and_one _ hq, selN_drop (by omega), bit_mul, wrap_nat (by omega)]
    generalize rd l (i : Int) = x at hx
    by_cases hb : m / 2 ^ i % 2 = 1
    · rw [if_pos hb, if_pos (by omega), show wrap64 (s + x) = s + x by unfold wrap64; omega, ih (i + 1) _ (by omega) (by omega) (by omega), Int.add_assoc]
    · rw [if_neg hb, if_neg (by omega), ih (i + 1) _ (by omega) (by omega) (by omega), Int.zero_add]
theorem selN_in : ∀ (l : List Int) (m : Nat), (∀ x ∈ l, 1 ≤ x ∧ x ≤ 60) → 0 ≤ selN l m ∧ selN l m ≤ 60 * l.length
  | [], m, _ => by simp [selN]
  | x :: l, m, h => by
    have := selN_in l (m / 2) (fun y hy => h y (List.mem_cons_of_mem _ hy))
    have := h x List.mem_cons_self
    rw [selN, bit_mul, List.length_cons]
    split <;> omega
/-- The ways to part a bundle in two of one sum, the first stick in the first. -/
def oddN (l : List Int) (N : Nat) : Nat := cntR N fun i => decide (2 * selN l (2 * i + 1) = l.sum)
theorem oddN_succ (l : List Int) (N : Nat) : oddN l (N + 1) = oddN l N + if 2 * selN l (2 * N + 1) = l.sum then 1 else 0 := by
  simp only [oddN, cntR, decide_eq_true_eq]
theorem half_pow {l : List Int} (hr : isRuler l) : 2 ^ l.length = 2 * 2 ^ (l.length - 1) ∧ 2 ^ (l.length - 1) ≤ 256 := by
  have h1 := hr.2.1
  have e : 2 ^ l.length = 2 * 2 ^ (l.length - 1) := by
    rw [show 2 ^ l.length = 2 ^ (l.length - 1 + 1) by congr 1; omega, Nat.pow_succ, Nat.mul_comm]
  have := pow9 hr
  exact ⟨e, by omega⟩
theorem impl_two0 (l : List Int) (hr : isRuler l) (N : Nat) (hN : N ≤ 256) (h2 : 2 ^ l.length = 2 * N) : ∀ (d k i : Nat), i + d = N → 20 * d + 30 ≤ k →
    impl_PartTwo.l0 k l ((oddN l i : Nat) : Int) ((2 * i + 1 : Nat) : Int) = some (((oddN l N : Nat) : Int), true) := by
  have hn := hr.2.2
  intro d
  induction d with
  | zero =>
    intro k i hi hk
    obtain ⟨j, rfl⟩ : ∃ j, k = j + 1 := ⟨k - 1, by omega⟩
    rw [impl_PartTwo.l0, shl_len hr, h2, if_neg (by omega), show i = N by omega]
  | succ d ih =>
    intro k i hi hk
    obtain ⟨j, rfl⟩ : ∃ j, k = j + l.length + 2 := ⟨k - l.length - 2, by omega⟩
    have hs := selN_in l (2 * i + 1) hr.1
    have hc := cntR_le (fun i => decide (2 * selN l (2 * i + 1) = l.sum)) i
    have e1 := impl_two1 l hr ((oddN l i : Nat) : Int) (2 * i + 1) (by omega) j l.length 0 0 (by omega) (by omega) (by omega)
    rw [Int.zero_add, List.drop_zero, Nat.pow_zero, Nat.div_one] at e1
    have e1 : impl_PartTwo.l1 (j + l.length + 1) l ((oddN l i : Nat) : Int) ((2 * i + 1 : Nat) : Int) 0 l (l.length : Int) 0 = _ := e1
    have e2 := oddN_succ l i
    have hc : oddN l i ≤ i := hc
    rw [impl_PartTwo.l0, shl_len hr, h2, if_pos (by omega), e1, impl_PartTwo.l1, if_neg (by omega), sum_tells l (by omega) hr.1 j (by omega)]
    simp only [Option.bind_some]
    rw [show wrap64 (2 * selN l (2 * i + 1)) = 2 * selN l (2 * i + 1) by unfold wrap64; omega, show wrap64 (((2 * i + 1 : Nat) : Int) + 2) = ((2 * (i + 1) + 1 : Nat) : Int) by unfold wrap64; omega]
    by_cases h : 2 * selN l (2 * i + 1) = l.sum
    · rw [if_pos h] at e2 ⊢
      rw [show wrap64 ((((oddN l i : Nat) : Int) : Int) + 1) = ((oddN l (i + 1) : Nat) : Int) by unfold wrap64; omega]
      exact ih j (i + 1) (by omega) (by omega)
    · rw [if_neg h] at e2 ⊢
      rw [show oddN l i = oddN l (i + 1) by omega]
      exact ih j (i + 1) (by omega) (by omega)
theorem spec_two0 (l : List Int) (hr : isRuler l) (N : Nat) (hN : N ≤ 256) (h2 : 2 ^ l.length = 2 * N) : ∀ (d k i : Nat), i + d = N → 20 * d + 30 ≤ k →
    spec_PartTwo.l0 k l ((oddN l i : Nat) : Int) ((2 * i + 1 : Nat) : Int) = some (((oddN l N : Nat) : Int), true) := by
  have hn := hr.2.2
  intro d
  induction d with
  | zero =>
    intro k i hi hk
    obtain ⟨j, rfl⟩ : ∃ j, k = j + 1 := ⟨k - 1, by omega⟩
    rw [spec_PartTwo.l0, shl_len hr, h2, if_neg (by omega), show i = N by omega]
  | succ d ih =>
    intro k i hi hk
    obtain ⟨j, rfl⟩ : ∃ j, k = j + l.length + 2 := ⟨k - l.length - 2, by omega⟩
    have hs := selN_in l (2 * i + 1) hr.1
    have hc := cntR_le (fun i => decide (2 * selN l (2 * i + 1) = l.sum)) i
    have e1 := spec_two1 l hr ((oddN l i : Nat) : Int) (2 * i + 1) (by omega) j l.length 0 0 (by omega) (by omega) (by omega)
    rw [Int.zero_add, List.drop_zero, Nat.pow_zero, Nat.div_one] at e1
    have e1 : spec_PartTwo.l1 (j + l.length + 1) l ((oddN l i : Nat) : Int) ((2 * i + 1 : Nat) : Int) 0 0 = _ := e1
    have e2 := oddN_succ l i
    have hc : oddN l i ≤ i := hc
    rw [spec_PartTwo.l0, shl_len hr, h2, if_pos (by omega), e1, spec_PartTwo.l1, if_neg (by omega), ssum_tells l (by omega) hr.1 j (by omega)]
    simp only [Option.bind_some]
    rw [show wrap64 (2 * selN l (2 * i + 1)) = 2 * selN l (2 * i + 1) by unfold wrap64; omega, show wrap64 (((2 * i + 1 : Nat) : Int) + 2) = ((2 * (i + 1) + 1 : Nat) : Int) by unfold wrap64; omega]
    by_cases h : 2 * selN l (2 * i + 1) = l.sum
    · rw [if_pos h] at e2 ⊢
      rw [show wrap64 ((((oddN l i : Nat) : Int) : Int) + 1) = ((oddN l (i + 1) : Nat) : Int) by unfold wrap64; omega]
      exact ih j (i + 1) (by omega) (by omega)
    · rw [if_neg h] at e2 ⊢
      rw [show oddN l i = oddN l (i + 1) by omega]
      exact ih j (i + 1) (by omega) (by omega)
def twoOf (l : List Int) : Int × Bool := if isBundle l then (((oddN l (2 ^ (l.length - 1)) : Nat) : Int), true) else (0, false)
theorem itwo_tells (l : List Int) (hl : l.length ≤ 1048576) (k : Nat) (hk : l.length + 6000 ≤ k) : impl_PartTwo.f k l = some (twoOf l) := by
  unfold impl_PartTwo.f twoOf
  rw [impl_bundle l hl k (by omega)]
  simp only [Option.bind_some, decide_eq_true_eq]
  by_cases hb : isBundle l
  · obtain ⟨e, h⟩ := half_pow hb.1
    rw [if_pos hb, if_pos hb]
    exact impl_two0 l hb.1 _ h e (2 ^ (l.length - 1)) k 0 (by omega) (by omega)
  · rw [if_neg hb, if_neg hb]
theorem stwo_tells (l : List Int) (hl : l.length ≤ 1048576) (k : Nat) (hk : l.length + 6000 ≤ k) : spec_PartTwo.f k l = some (twoOf l) := by
  unfold spec_PartTwo.f twoOf
  rw [spec_bundle l hl k (by omega)]
  simp only [Option.bind_some, decide_eq_true_eq]
  by_cases hb : isBundle l
  · obtain ⟨e, h⟩ := half_pow hb.1
    rw [if_pos hb, if_pos hb]
    exact spec_two0 l hb.1 _ h e (2 ^ (l.length - 1)) k 0 (by omega) (by omega)
  · rw [if_neg hb, if_neg hb]
theorem two_ways {l : List Int} (hr : isRuler l) : 2 * oddN l (2 ^ (l.length - 1)) = sgn l 0 := by
  cases l with
  | nil => exact absurd hr.2.1 (by simp)
  | cons x l => exact odd_count x l
/-! ### the reader of draws -/
theorem wrap_id {x : Int} (h0 : -9223372036854775808 ≤ x) (h1 : x ≤ 9223372036854775807) : wrap64 x = x := by unfold wrap64; omega
theorem wf_u8 {l : List Int} (h : ∀ x ∈ l, (Lit.int .u8 x).wf = true) : ∀ x ∈ l, 0 ≤ x ∧ x ≤ 255 := by
  intro x hx
  have := h x hx
  simp [Lit.wf, IntKind.min, IntKind.max, IntKind.bits, IntKind.signed] at this
  omega
theorem rd_u8 {b : List Int} (hb : ∀ x ∈ b, 0 ≤ x ∧ x ≤ 255) (i : Int) (h0 : 0 ≤ i) (h1 : i < b.length) : 0 ≤ rd b i ∧ rd b i ≤ 255 := by
  have hl : i.toNat < b.length := by omega
  have : rd b i = b[i.toNat] := by
    unfold rd
    rw [List.getD_eq_getElem?_getD, List.getElem?_eq_getElem hl]
    rfl
  rw [this]
  exact hb _ (List.getElem_mem hl)
theorem xor_i64 (a b : Nat) (ha : a < 4611686018427387904) (hb : b < 4611686018427387904) : Go.bits .xor .i64 (a : Int) (b : Int) = ((a ^^^ b : Nat) : Int) := by
  have hx : a ^^^ b < 2 ^ 62 := Nat.xor_lt_two_pow (by omega) (by omega)
  have h1 : (BitVec.ofInt 64 (a : Int)).toNat = a := by
    rw [BitVec.ofInt_natCast, BitVec.toNat_ofNat]; exact Nat.mod_eq_of_lt (by omega)
  have h2 : (BitVec.ofInt 64 (b : Int)).toNat = b := by
    rw [BitVec.ofInt_natCast, BitVec.toNat_ofNat]; exact Nat.mod_eq_of_lt (by omega)
  show IntKind.i64.wrap ((BitVec.ofInt 64 (a : Int) ^^^ BitVec.ofInt 64 (b : Int)).toNat : Int) = _
  rw [BitVec.toNat_xor, h1, h2]
  generalize a ^^^ b = c at hx
  simp [IntKind.wrap, IntKind.bits, IntKind.signed]
  omega
theorem tmod_in {x n : Int} (hx : 0 ≤ x) (hn : 1 ≤ n) : 0 ≤ Int.tmod x n ∧ Int.tmod x n < n := by
  rw [Int.tmod_eq_emod_of_nonneg hx]
  exact ⟨Int.emod_nonneg _ (by omega), Int.emod_lt_of_pos _ (by omega)⟩
theorem tdiv_in {x n : Int} (hx : 0 ≤ x) (hn : 1 ≤ n) : 0 ≤ Int.tdiv x n ∧ Int.tdiv x n ≤ x := by
  rw [Int.tdiv_eq_ediv_of_nonneg hx]
  exact ⟨Int.ediv_nonneg hx (by omega), Int.ediv_le_self _ hx⟩
theorem pick_tells (b : List Int) (hb : ∀ x ∈ b, 0 ≤ x ∧ x ≤ 255) (hl : b.length ≤ 2000) (p n : Int) (hp : 0 ≤ p) (hp2 : p ≤ 1000000) (hn : 1 ≤ n) (hn2 : n ≤ 1000000) (k : Nat) (hk : 1 ≤ k) :
    ∃ r, spec_l6Rd_pick.f k b p n = some (r, p + 1) ∧ 0 ≤ r ∧ r < n := by
  obtain ⟨m, rfl⟩ : ∃ m, k = m + 1 := ⟨k - 1, by omega⟩
  unfold spec_l6Rd_pick.f
  have e0 : wrap64 (p + 1) = p + 1 := wrap_id (by omega) (by omega)
  have e1 : wrap64 (p + 1 - 1) = p := by rw [show p + 1 - 1 = p by omega]; exact wrap_id (by omega) (by omega)
  rw [if_neg (by omega), spec_l6Rd_pick.j0, e0, e1]
  by_cases hz : b.length = 0
  · rw [if_pos (by simp [hz])]
    exact ⟨0, rfl, by omega, by omega⟩
  · have hz2 : ((b.length : Int) == 0) = false := by rw [beq_eq_false_iff_ne]; omega
    rw [hz2, if_neg (by decide)]
    by_cases h : p < b.length
    · rw [if_pos h, if_pos hp, if_neg (by omega)]
      have hr := rd_u8 hb p hp h
      rw [wrap_id (x := rd b p) (by omega) (by omega)]
      exact ⟨_, rfl, tmod_in hr.1 hn⟩
    · rw [if_neg h, if_neg (by omega)]
      have hlen : (1 : Int) ≤ b.length := by omega
      have q1 := tmod_in hp hlen
      have e7 : wrap64 (p * 7) = p * 7 := wrap_id (by omega) (by omega)
      have e8 : wrap64 (p * 7 + 3) = p * 7 + 3 := wrap_id (by omega) (by omega)
      rw [e7, e8]
      have q2 := tmod_in (show (0 : Int) ≤ p * 7 + 3 by omega) hlen
      rw [if_pos q1.1, if_pos q1.2, if_pos q2.1, if_pos q2.2, if_neg (by omega)]
      have r1 := rd_u8 hb _ q1.1 q1.2
      have r2 := rd_u8 hb _ q2.1 q2.2
      have q3 := tdiv_in hp hlen
      generalize rd b (Int.tmod p b.length) = x1 at r1
      generalize rd b (Int.tmod (p * 7 + 3) b.length) = x2 at r2
      generalize Int.tdiv p b.length = x3 at q3
      rw [wrap_id (x := x1) (by omega) (by omega), wrap_id (x := x2) (by omega) (by omega), wrap_id (x := x3) (by omega) (by omega), wrap_id (x := x1 * 131) (by omega) (by omega), wrap_id (x := x2 * 1117) (by omega) (by omega),
        wrap_id (x := x1 * 131 + x2 * 1117) (by omega) (by omega), wrap_id (x := p * 29) (by omega) (by omega), wrap_id (x := x1 * 131 + x2 * 1117 + p * 29) (by omega) (by omega), wrap_id (x := x3 * 53) (by omega) (by omega),
        wrap_id (x := x1 * 131 + x2 * 1117 + p * 29 + x3 * 53) (by omega) (by omega)]
      obtain ⟨X, hX⟩ : ∃ X : Nat, x1 * 131 + x2 * 1117 + p * 29 + x3 * 53 = X := ⟨(x1 * 131 + x2 * 1117 + p * 29 + x3 * 53).toNat, by omega⟩
      rw [hX]
      have hXb : X < 1000000000 := by omega
      have q4 := tdiv_in (show (0 : Int) ≤ (X : Int) by omega) (show (1 : Int) ≤ 64 by omega)
      rw [wrap_id (x := Int.tdiv X 64) (by omega) (by omega)]
      obtain ⟨Y, hY⟩ : ∃ Y : Nat, Int.tdiv X 64 = Y := ⟨(Int.tdiv X 64).toNat, by omega⟩
      rw [hY, xor_i64 X Y (by omega) (by omega)]
      exact ⟨_, rfl, tmod_in (by omega) hn⟩
/-- The bytes that the reader takes. -/
theorem open_tells (l : List Int) (h : ∀ x ∈ l, 0 ≤ x ∧ x ≤ 255) : ∃ b, spec_l6Open.f l = some (b, 0) ∧ b.length ≤ 2000 ∧ ∀ x ∈ b, 0 ≤ x ∧ x ≤ 255 := by
  unfold spec_l6Open.f
  by_cases hl : (l.length : Int) > 2000
  · rw [if_pos hl, if_pos (by omega)]
    exact ⟨_, rfl, by rw [List.length_take]; omega, fun x hx => h x (List.mem_of_mem_take hx)⟩
  · rw [if_neg hl]
    exact ⟨_, rfl, by omega, h⟩
/-! ### spec.l1Sort: the same numbers -/
theorem sort_l1 (a out : List Int) (i : Int) (hl : out.length ≤ 1000) : ∀ (j k : Nat), j ≤ out.length → j + 1 ≤ k → ∃ j' : Nat, spec_l1Sort.l1 k a out i (j : Int) = some (j' : Int) ∧ j' ≤ j := by
  intro j
  induction j with
  | zero =>
    intro k h1 h2
    obtain ⟨m, rfl⟩ : ∃ m, k = m + 1 := ⟨k - 1, by omega⟩
    rw [spec_l1Sort.l1, if_neg (by omega)]
    exact ⟨0, rfl, Nat.le_refl _⟩
  | succ j ih =>
    intro k h1 h2
    obtain ⟨m, rfl⟩ : ∃ m, k = m + 1 := ⟨k - 1, by omega⟩
    rw [spec_l1Sort.l1, if_pos (by omega), show wrap64 (((j + 1 : Nat) : Int) - 1) = (j : Int) by unfold wrap64; omega, if_pos (by omega), if_pos (by omega)]
    split
    · obtain ⟨j', h3, h4⟩ := ih m (by omega) (by omega)
      exact ⟨j', h3, by omega⟩
    · exact ⟨j + 1, rfl, Nat.le_refl _⟩
theorem take_grow (a : List Int) (i : Nat) (h : i < a.length) : a.take (i + 1) = a.take i ++ [rd a (i : Int)] := by
  rw [List.take_succ_eq_append_getElem h]
  congr 2
  unfold rd
  rw [List.getD_eq_getElem?_getD, Int.toNat_natCast, List.getElem?_eq_getElem h]
  rfl
theorem sort_l0 (a : List Int) (hl : a.length ≤ 900) : ∀ (d k i : Nat) (out : List Int), i + d = a.length → out.length = i → a.length + d + 2 ≤ k → out.Perm (a.take i) → ∃ r, spec_l1Sort.l0 k a out (i : Int) = some r ∧ r.Perm a := by
  intro d
  induction d with
  | zero =>
    intro k i out h1 h2 h3 h4
    obtain ⟨m, rfl⟩ : ∃ m, k = m + 1 := ⟨k - 1, by omega⟩
    rw [spec_l1Sort.l0, if_neg (by omega)]
    exact ⟨out, rfl, by rw [List.take_of_length_le (by omega)] at h4; exact h4⟩
  | succ d ih =>
    intro k i out h1 h2 h3 h4
    obtain ⟨m, rfl⟩ : ∃ m, k = m + 1 := ⟨k - 1, by omega⟩
    rw [spec_l1Sort.l0, if_pos (by omega), if_pos (by omega)]
    obtain ⟨j, h5, h6⟩ := sort_l1 a out i (by omega) out.length m (Nat.le_refl _) (by omega)
    rw [h5]
    simp only [Option.bind_some]
    rw [if_pos (by omega), if_pos (by omega), if_pos (by omega), show wrap64 ((i : Int) + 1) = ((i + 1 : Nat) : Int) by unfold wrap64; omega]
    refine ih m (i + 1) _ (by omega) ?_ (by omega) ?_
    · rw [Int.toNat_natCast]
      simp only [List.length_append, List.length_take, List.length_drop, List.length_nil, List.length_cons]
      omega
    · rw [Int.toNat_natCast, List.nil_append, take_grow a i (by omega)]
      refine List.Perm.trans (List.perm_append_right_iff _ |>.mpr List.perm_append_comm) ?_
      rw [List.append_assoc, List.take_append_drop]
      exact List.perm_append_comm.trans (h4.append_right _)
theorem sort_tells (a : List Int) (hl : a.length ≤ 900) (k : Nat) (hk : 2 * a.length + 2 ≤ k) : ∃ r, spec_l1Sort.f k a = some r ∧ r.Perm a := by
  unfold spec_l1Sort.f
  exact sort_l0 a hl a.length k 0 [] (by omega) rfl (by omega) (by simp)
/-! ### a bundle that is drawn -/
theorem length_draw (b : List Int) (hb : ∀ x ∈ b, 0 ≤ x ∧ x ≤ 255) (hl : b.length ≤ 2000) (p : Int) (hp : 0 ≤ p) (hp2 : p ≤ 900000) (k : Nat) (hk : 1 ≤ k) :
    ∃ r q, spec_l91Length.f k b p = some (r, q) ∧ p ≤ q ∧ q ≤ p + 3 := by
  unfold spec_l91Length.f
  obtain ⟨r1, h1, _⟩ := pick_tells b hb hl p 12 hp (by omega) (by omega) (by omega) k hk
  obtain ⟨r2, h2, _⟩ := pick_tells b hb hl (p + 1) 6 (by omega) (by omega) (by omega) (by omega) k hk
  obtain ⟨r3, h3, _⟩ := pick_tells b hb hl (p + 1 + 1) 48 (by omega) (by omega) (by omega) (by omega) k hk
  rw [h1]
  simp only [Option.bind_some]
  rw [h2]
  simp only [Option.bind_some]
  rw [h3]
  simp only [Option.bind_some]
  exact ⟨_, _, rfl, by omega, by omega⟩
theorem sticks_draw_l (b : List Int) (hb : ∀ x ∈ b, 0 ≤ x ∧ x ≤ 255) (hl : b.length ≤ 2000) (n : Nat) (hn9 : n ≤ 9) : ∀ (d k i : Nat) (out : List Int) (p : Int), i + d = n → d + 30 ≤ k → out.length = i → 0 ≤ p → p ≤ 1000 + 3 * i →
    ∃ a q, spec_l91Sticks.l0 k (n : Int) out (i : Int) b p = some (a, q) ∧ a.length ≤ n + 1 ∧ 0 ≤ q ∧ q ≤ 1003 + 3 * n := by
  intro d
  induction d with
  | zero =>
    intro k i out p hi hk ho hp hp2
    obtain ⟨m, rfl⟩ : ∃ m, k = m + 1 := ⟨k - 1, by omega⟩
    rw [spec_l91Sticks.l0, if_neg (by omega)]
    obtain ⟨r, g1, g2⟩ := sort_tells out (by omega) m (by omega)
    have g3 := g2.length_eq
    rw [g1]
    simp only [Option.bind_some]
    obtain ⟨r1, h1, _⟩ := pick_tells b hb hl p 40 hp (by omega) (by omega) (by omega) m (by omega)
    rw [h1]
    simp only [Option.bind_some]
    split
    · rw [if_pos (by omega)]
      exact ⟨_, _, rfl, by rw [List.length_append]; simp; omega, by omega, by omega⟩
    · split
      · rw [if_pos (by simp; omega)]
        exact ⟨_, _, rfl, by rw [List.length_append]; simp; omega, by omega, by omega⟩
      · exact ⟨_, _, rfl, by omega, by omega, by omega⟩
  | succ d ih =>
    intro k i out p hi hk ho hp hp2
    obtain ⟨m, rfl⟩ : ∃ m, k = m + 1 := ⟨k - 1, by omega⟩
    rw [spec_l91Sticks.l0, if_pos (by omega)]
    obtain ⟨r, q, h1, h2, h3⟩ := length_draw b hb hl p hp (by omega) m (by omega)
    rw [h1]
    simp only [Option.bind_some]
    rw [if_pos (by omega), show wrap64 ((i : Int) + 1) = ((i + 1 : Nat) : Int) by unfold wrap64; omega]
    exact ih m (i + 1) _ q (by omega) (by omega) (by rw [List.length_append]; simp; omega) (by omega) (by omega)
theorem bundle_draw (b : List Int) (hb : ∀ x ∈ b, 0 ≤ x ∧ x ≤ 255) (hl : b.length ≤ 2000) (k : Nat) (hk : 60 ≤ k) :
    ∃ a q, spec_l91Bundle.f k b 0 = some (a, q) ∧ a.length ≤ 10 ∧ 0 ≤ q ∧ q ≤ 1100 := by
  unfold spec_l91Bundle.f
  obtain ⟨r, h, g1, g2⟩ := pick_tells b hb hl 0 9 (by omega) (by omega) (by omega) (by omega) k (by omega)
  rw [h]
  simp only [Option.bind_some]
  obtain ⟨n, hn⟩ : ∃ n : Nat, r = n := ⟨r.toNat, by omega⟩
  subst hn
  unfold spec_l91Sticks.f
  rw [show wrap64 (1 + (n : Int)) = ((n + 1 : Nat) : Int) by unfold wrap64; omega]
  obtain ⟨a, q, h1, h2, h3, h4⟩ := sticks_draw_l b hb hl (n + 1) (by omega) (n + 1) k 0 [] (0 + 1) (by omega) (by omega) rfl (by omega) (by omega)
  have h1 : spec_l91Sticks.l0 k ((n + 1 : Nat) : Int) [] 0 b (0 + 1) = some (a, q) := h1
  rw [h1]
  exact ⟨a, q, rfl, by omega, h3, by omega⟩
/-! ### a bundle to part, drawn -/
theorem bundle_draw_at (b : List Int) (hb : ∀ x ∈ b, 0 ≤ x ∧ x ≤ 255) (hl : b.length ≤ 2000) (p : Int) (hp : 0 ≤ p) (hp2 : p ≤ 900) (k : Nat) (hk : 60 ≤ k) :
    ∃ a q, spec_l91Bundle.f k b p = some (a, q) ∧ a.length ≤ 10 := by
  unfold spec_l91Bundle.f
  obtain ⟨r, h, g1, g2⟩ := pick_tells b hb hl p 9 (by omega) (by omega) (by omega) (by omega) k (by omega)
  rw [h]
  simp only [Option.bind_some]
  obtain ⟨n, hn⟩ : ∃ n : Nat, r = n := ⟨r.toNat, by omega⟩
  subst hn
  unfold spec_l91Sticks.f
  rw [show wrap64 (1 + (n : Int)) = ((n + 1 : Nat) : Int) by unfold wrap64; omega]
  obtain ⟨a, q, h1, h2, h3, h4⟩ := sticks_draw_l b hb hl (n + 1) (by omega) (n + 1) k 0 [] (p + 1) (by omega) (by omega) rfl (by omega) (by omega)
  have h1 : spec_l91Sticks.l0 k ((n + 1 : Nat) : Int) [] 0 b (p + 1) = some (a, q) := h1
  rw [h1]
  exact ⟨a, q, rfl, by omega⟩
theorem few_l (b : List Int) (hb : ∀ x ∈ b, 0 ≤ x ∧ x ≤ 255) (hl : b.length ≤ 2000) (n : Nat) (hn9 : n ≤ 9) : ∀ (d k i : Nat) (out : List Int) (p : Int), i + d = n → d + 30 ≤ k → out.length = i → 0 ≤ p → p ≤ 1000 + i →
    ∃ a q, spec_l92Few.l0 k out (n : Int) (i : Int) b p = some (a, q) ∧ a.length ≤ 10 := by
  intro d
  induction d with
  | zero =>
    intro k i out p hi hk ho hp hp2
    obtain ⟨m, rfl⟩ : ∃ m, k = m + 1 := ⟨k - 1, by omega⟩
    rw [spec_l92Few.l0, if_neg (by omega)]
    obtain ⟨r, g1, g2⟩ := sort_tells out (by omega) m (by omega)
    have g3 := g2.length_eq
    rw [g1]
    exact ⟨r, p, rfl, by omega⟩
  | succ d ih =>
    intro k i out p hi hk ho hp hp2
    obtain ⟨m, rfl⟩ : ∃ m, k = m + 1 := ⟨k - 1, by omega⟩
    rw [spec_l92Few.l0, if_pos (by omega)]
    obtain ⟨r, h1, h2, h3⟩ := pick_tells b hb hl p 6 hp (by omega) (by omega) (by omega) m (by omega)
    rw [h1]
    simp only [Option.bind_some]
    rw [if_pos (by omega), show wrap64 ((i : Int) + 1) = ((i + 1 : Nat) : Int) by unfold wrap64; omega]
    exact ih m (i + 1) _ (p + 1) (by omega) (by omega) (by rw [List.length_append]; simp; omega) (by omega) (by omega)
theorem few_j (b : List Int) (hb : ∀ x ∈ b, 0 ≤ x ∧ x ≤ 255) (hl : b.length ≤ 2000) (n : Int) (h0 : 0 ≤ n) (hn9 : n ≤ 9) (k : Nat) (hk : 60 ≤ k) (p : Int) (hp : 0 ≤ p) (hp2 : p ≤ 100) :
    ∃ a q, spec_l92Few.j0 k [] n b p = some (a, q) ∧ a.length ≤ 10 := by
  obtain ⟨m, rfl⟩ : ∃ m, k = m + 1 := ⟨k - 1, by omega⟩
  obtain ⟨n, rfl⟩ : ∃ j : Nat, n = j := ⟨n.toNat, by omega⟩
  rw [spec_l92Few.j0]
  exact few_l b hb hl n (by omega) n m 0 [] p (by omega) (by omega) rfl hp (by omega)
theorem few_tells (b : List Int) (hb : ∀ x ∈ b, 0 ≤ x ∧ x ≤ 255) (hl : b.length ≤ 2000) (k : Nat) (hk : 60 ≤ k) : ∃ a q, spec_l92Few.f k b 0 = some (a, q) ∧ a.length ≤ 10 := by
  unfold spec_l92Few.f
  obtain ⟨r0, h0, _⟩ := pick_tells b hb hl 0 3 (by omega) (by omega) (by omega) (by omega) k (by omega)
  rw [h0]
  simp only [Option.bind_some]
  split
  · obtain ⟨a, q, h1, h2⟩ := bundle_draw_at b hb hl (0 + 1) (by omega) (by omega) k hk
    rw [h1]
    exact ⟨a, q, rfl, h2⟩
  · obtain ⟨r1, h1, g1, g2⟩ := pick_tells b hb hl (0 + 1) 3 (by omega) (by omega) (by omega) (by omega) k (by omega)
    obtain ⟨r2, h2, _⟩ := pick_tells b hb hl (0 + 1 + 1) 4 (by omega) (by omega) (by omega) (by omega) k (by omega)
    rw [h1]
    simp only [Option.bind_some]
    rw [h2]
    simp only [Option.bind_some]
    split
    · obtain ⟨r3, h3, g3, g4⟩ := pick_tells b hb hl (0 + 1 + 1 + 1) 9 (by omega) (by omega) (by omega) (by omega) k (by omega)
      rw [h3]
      simp only [Option.bind_some]
      exact few_j b hb hl _ (by unfold wrap64; omega) (by unfold wrap64; omega) k hk _ (by omega) (by omega)
    · rw [show wrap64 (1 + r1) = 1 + r1 by unfold wrap64; omega, show wrap64 (3 * (1 + r1)) = 3 * (1 + r1) by unfold wrap64; omega]
      exact few_j b hb hl _ (by omega) (by omega) k hk _ (by omega) (by omega)
theorem parted_tells (l : List Int) (hb : ∀ x ∈ l, 0 ≤ x ∧ x ≤ 255) (k : Nat) (hk : 60 ≤ k) : ∃ a, spec_l92Parted.f k l = some a ∧ a.length ≤ 10 := by
  unfold spec_l92Parted.f
  obtain ⟨b, h1, h2, h3⟩ := open_tells l hb
  rw [h1]
  simp only [Option.bind_some]
  obtain ⟨a, q, h4, h5⟩ := few_tells b h3 h2 k hk
  rw [h4]
  exact ⟨a, rfl, h5⟩
theorem FnPartTwo : laws_FnPartTwo.Pure := by
  intro l h1 h2 h3
  refine ⟨l.length + 10000, ?_⟩
  unfold laws_FnPartTwo.f
  split
  · rfl
  · next hl =>
    have hl : l.length ≤ 1048576 := by omega
    obtain ⟨a, g1, g2⟩ := parted_tells l (wf_u8 h3) (l.length + 10000) (by omega)
    unfold spec_DrawPartTwo.f
    rw [g1]
    simp only [Option.bind_some]
    rw [itwo_tells a (by omega) _ (by omega), stwo_tells a (by omega) _ (by omega)]
    simp only [Option.bind_some]
    rw [if_neg (by simp), if_pos trivial]
    by_cases hb : isBundle a
    · have e : twoOf a = (((oddN a (2 ^ (a.length - 1)) : Nat) : Int), true) := by
        unfold twoOf
        rw [if_pos hb]
      have hw := two_ways hb.1
      have ho := cntR_le (fun i => decide (2 * selN a (2 * i + 1) = a.sum)) (2 ^ (a.length - 1))
      have ho : oddN a (2 ^ (a.length - 1)) ≤ 2 ^ (a.length - 1) := ho
      have hp := (half_pow hb.1).2
      rw [e, if_pos rfl, ways_tells a hb.1 (by omega) _ (by omega)]
      simp only [Option.bind_some, if_true]
      rw [show wrap64 (2 * ((oddN a (2 ^ (a.length - 1)) : Nat) : Int)) = ((sgn a 0 : Nat) : Int) by rw [← hw]; unfold wrap64; omega]
      exact congrArg some (beq_self_eq_true _)
    · have e : twoOf a = (0, false) := by
        unfold twoOf
        rw [if_neg hb]
      rw [e, if_neg (by decide)]
      rfl

end Go.Proofs.Ytcbbeokiolecmaa.Pure
