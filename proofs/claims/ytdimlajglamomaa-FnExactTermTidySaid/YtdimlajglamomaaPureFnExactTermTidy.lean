/- The law FnExactTermTidy, as a statement over plain numbers and lists, is proved: what the program's functions compute is what the reference's compute. -/
import Derived.Test.YtdimlajglamomaaPFnExactTermTidyx5
namespace Go.Proofs.Ytdimlajglamomaa.Pure
open Go.RowKit Go.Proofs.Ytdimlajglamomaa.PFnExactTermTidy Go.Proofs.YtdimlajglamomaaW.PrintWords Go.Proofs.YtdimlajglamomaaW.PrintLast
set_option linter.unusedVariables false
set_option linter.unusedSimpArgs false
/-! ### terms, as plain trees -/
inductive T where
  | leaf (c : Nat)
  | one (c : Nat) (t : T)
  | two (a b : T)
def isLetter (c : Nat) : Prop := c = 101 ∨ c = 110 ∨ c = 119 ∨ c = 115
instance (c : Nat) : Decidable (isLetter c) := by unfold isLetter; infer_instance
def isSign (c : Nat) : Prop := c = 45 ∨ c = 64 ∨ (50 ≤ c ∧ c ≤ 57)
instance (c : Nat) : Decidable (isSign c) := by unfold isSign; infer_instance
theorem letter_sign {c : Nat} (h : isLetter c) : ¬ isSign c := by unfold isLetter at h; unfold isSign; omega
def T.ok : T → Prop
  | .leaf c => isLetter c
  | .one c t => isSign c ∧ t.ok
  | .two a b => a.ok ∧ b.ok
/-- The text of a term. -/
def T.text : T → List Nat
  | .leaf c => [c]
  | .one c t => c :: t.text
  | .two a b => 40 :: (a.text ++ 43 :: (b.text ++ [41]))
/-- Reads a term. -/
def rdT : Nat → List Nat → Option (T × List Nat)
  | 0, _ => none
  | _ + 1, [] => none
  | k + 1, c :: l =>
    if isLetter c then some (.leaf c, l)
    else if isSign c then (rdT k l).bind fun p => some (.one c p.1, p.2)
    else if c = 40 then
      (rdT k l).bind fun p =>
        if p.2.head? = some 43 then
          (rdT k p.2.tail).bind fun q => if q.2.head? = some 41 then some (.two p.1 q.1, q.2.tail) else none
        else none
    else none
theorem T.text_pos (t : T) : 0 < t.text.length := by cases t <;> simp [T.text]
theorem T.text_two (a b : T) : (T.two a b).text.length = a.text.length + b.text.length + 3 := by simp [T.text]; omega
theorem head_tail {l : List Nat} {c : Nat} (h : l.head? = some c) : l = c :: l.tail := by
  cases l with
  | nil => simp at h
  | cons x r => simp at h; rw [h]; rfl
theorem rd_sound : ∀ (k : Nat) (l : List Nat) (t : T) (r : List Nat), rdT k l = some (t, r) → t.ok ∧ l = t.text ++ r := by
  intro k
  induction k with
  | zero => intro l t r h; simp [rdT] at h
  | succ k ih =>
    intro l t r h
    cases l with
    | nil => simp [rdT] at h
    | cons c l =>
      simp only [rdT] at h
      split at h
      · next hc => simp only [Option.some.injEq, Prod.mk.injEq] at h; obtain ⟨rfl, rfl⟩ := h; exact ⟨hc, rfl⟩
      · split at h
        · next hc =>
          obtain ⟨⟨t1, r1⟩, h1, h2⟩ := Option.bind_eq_some_iff.mp h
          simp only [Option.some.injEq, Prod.mk.injEq] at h2
          obtain ⟨rfl, rfl⟩ := h2
          have := ih _ _ _ h1
          exact ⟨⟨hc, this.1⟩, by rw [this.2]; rfl⟩
        · split at h
          · next hc =>
            obtain ⟨⟨t1, r1⟩, h1, h2⟩ := Option.bind_eq_some_iff.mp h
            split at h2
            · next hp =>
              obtain ⟨⟨t2, r2⟩, h3, h4⟩ := Option.bind_eq_some_iff.mp h2
              split at h4
              · next hq =>
                simp only [Option.some.injEq, Prod.mk.injEq] at h4
                obtain ⟨rfl, rfl⟩ := h4
                have i1 := ih _ _ _ h1
                have i2 := ih _ _ _ h3
                have e1 := head_tail hp
                have e2 := head_tail hq
                refine ⟨⟨i1.1, i2.1⟩, ?_⟩
                simp only at e1 e2 i1 i2
                rw [hc, i1.2, e1, i2.2, e2]
                simp [T.text]
              · simp at h4
            · simp at h2
          · simp at h
theorem rd_full : ∀ (t : T) (k : Nat) (r : List Nat), t.ok → t.text.length < k → rdT k (t.text ++ r) = some (t, r) := by
  intro t
  induction t with
  | leaf c =>
    intro k r ho hk
    obtain ⟨k, rfl⟩ : ∃ m, k = m + 1 := ⟨k - 1, by omega⟩
    simp only [T.text, List.cons_append, List.nil_append, rdT]
    rw [if_pos (show isLetter c from ho)]
  | one c t ih =>
    intro k r ho hk
    obtain ⟨k, rfl⟩ : ∃ m, k = m + 1 := ⟨k - 1, by omega⟩
    simp only [T.text, List.length_cons] at hk
    simp only [T.text, List.cons_append, rdT]
    rw [if_neg (fun h => letter_sign h ho.1), if_pos ho.1, ih k r ho.2 (by omega)]
    rfl
  | two a b iha ihb =>
    intro k r ho hk
    obtain ⟨k, rfl⟩ : ∃ m, k = m + 1 := ⟨k - 1, by omega⟩
    simp only [T.text, List.length_cons, List.length_append, List.length_nil] at hk
    simp only [T.text, List.cons_append, List.append_assoc, List.nil_append, rdT]
    rw [if_neg (show ¬ isLetter 40 by decide), if_neg (show ¬ isSign 40 by decide)]
    simp only [if_true]
    rw [iha k _ ho.1 (by omega)]
    simp only [Option.bind_some, List.head?_cons, if_true, List.tail_cons]
    rw [ihb k _ ho.2 (by omega)]
    simp
/-- A term at the head of a text is there whatever the rounds. -/
theorem rd_rounds {k k' : Nat} {l : List Nat} (h : l.length < k) (h' : l.length < k') : rdT k l = rdT k' l := by
  have key : ∀ k k', l.length < k → l.length < k' → ∀ x, rdT k l = some x → rdT k' l = some x := by
    intro k k' h h' x hx
    obtain ⟨ho, hl⟩ := rd_sound k l x.1 x.2 hx
    rw [hl]
    refine rd_full _ _ _ ho ?_
    have := congrArg List.length hl
    simp at this
    omega
  cases e : rdT k l with
  | some x => exact (key k k' h h' x e).symm
  | none =>
    cases e' : rdT k' l with
    | none => rfl
    | some x => have := key k' k h' h x e'; rw [e] at this; simp at this
theorem rd_len {k : Nat} {l : List Nat} {t : T} {r : List Nat} (h : rdT k l = some (t, r)) : r.length < l.length := by
  have := rd_sound k l t r h
  have hp := t.text_pos
  rw [this.2]
  simp
  omega
/-- A text is a term. -/
def isTerm (l : List Nat) : Option T := (rdT (l.length + 1) l).bind fun p => if p.2 = [] then some p.1 else none
theorem isTerm_text {t : T} (h : t.ok) : isTerm t.text = some t := by
  unfold isTerm
  have := rd_full t (t.text.length + 1) [] h (by omega)
  rw [List.append_nil] at this
  rw [this]
  rfl
theorem isTerm_some {l : List Nat} {t : T} : isTerm l = some t ↔ t.ok ∧ l = t.text := by
  constructor
  · intro h
    unfold isTerm at h
    obtain ⟨⟨t1, r1⟩, h1, h2⟩ := Option.bind_eq_some_iff.mp h
    split at h2
    · next hr =>
      injection h2 with h2
      simp only at hr h2
      subst hr h2
      have := rd_sound _ _ _ _ h1
      rwa [List.append_nil] at this
    · simp at h2
  · rintro ⟨h, rfl⟩
    exact isTerm_text h
/-- The bytes of a string as numbers. -/
def nats (s : ByteArray) : List Nat := s.data.toList.map UInt8.toNat
theorem nats_length (s : ByteArray) : (nats s).length = s.size := by simp [nats]
theorem bt_nats (s : ByteArray) (i : Nat) (h : i < s.size) : (nats s)[i]? = some (bt s (i : Int)).toNat := by
  unfold nats bt
  rw [dif_pos (by simpa using h)]
  simp only [List.getElem?_map, Int.toNat_natCast]
  have hl : i < s.data.toList.length := by simpa using h
  rw [List.getElem?_eq_getElem hl]
  rfl
theorem nats_extract (s : ByteArray) : nats (s.extract 1 s.size) = (nats s).tail := by
  unfold nats
  rw [Lib.extract_data]
  have : (s.data.toList.drop 1).take (s.size - 1) = s.data.toList.drop 1 := by
    apply List.take_of_length_le
    simp
  rw [this]
  simp
theorem nats_append (a b : ByteArray) : nats (a ++ b) = nats a ++ nats b := by
  unfold nats
  rw [ByteArray.data_append, Array.toList_append, List.map_append]
/-! ### how the two readers read -/
def toS : T → S34
  | .leaf c => ⟨c, []⟩
  | .one c t => ⟨c, [toS t]⟩
  | .two a b => ⟨43, [toS a, toS b]⟩
def toI : T → S39
  | .leaf c => ⟨c, []⟩
  | .one c t => ⟨c, [toI t]⟩
  | .two a b => ⟨40, [toI a, toI b]⟩
theorem etaS (x : S34) : (⟨x.f0, x.f1⟩ : S34) = x := by cases x; rfl
theorem etaI (x : S39) : (⟨x.f0, x.f1⟩ : S39) = x := by cases x; rfl
theorem bt_nonneg (s : ByteArray) (i : Int) : 0 ≤ bt s i := (bt_range s i).1
theorem spec_reads (s : ByteArray) : ∀ (k p : Nat), p ≤ s.size → s.size - p < k →
    match rdT k ((nats s).drop p) with
    | none => (spec_l10Read.g s k (p : Int)).2.2 = 0
    | some (t, r) => r.length < s.size - p ∧ (nats s).drop (s.size - r.length) = r ∧ spec_l10Read.g s k (p : Int) = ((toS t).f0, (toS t).f1, ((s.size - r.length : Nat) : Int)) := by
  intro k
  induction k with
  | zero => intro p hp hk; omega
  | succ k ih =>
    intro p hp hk
    by_cases h1 : p < s.size
    · have hd : (nats s).drop p = (bt s p).toNat :: (nats s).drop (p + 1) := by
        have hl : p < (nats s).length := by rw [nats_length]; exact h1
        rw [List.drop_eq_getElem_cons hl]
        have := bt_nats s p h1
        rw [List.getElem?_eq_getElem hl] at this
        injection this with this
        rw [this]
      have hb := bt_nonneg s (p : Int)
      obtain ⟨c, hc⟩ : ∃ c : Nat, bt s (p : Int) = c := ⟨(bt s (p : Int)).toNat, by omega⟩
      have ihp := ih (p + 1) (by omega) (by omega)
      rw [hd, spec_l10Read.g_succ, if_pos (by omega), hc]
      have L1 : isLetter c ↔ ((c : Int) = 110 ∨ (c : Int) = 101 ∨ (c : Int) = 115 ∨ (c : Int) = 119) := by unfold isLetter; omega
      have S1 : isSign c ↔ ((c : Int) = 45 ∨ (c : Int) = 64 ∨ (50 ≤ (c : Int) ∧ (c : Int) ≤ 57)) := by unfold isSign; omega
      simp only [Int.toNat_natCast, rdT]
      have hp1 : ((p : Int) + 1) = ((p + 1 : Nat) : Int) := by omega
      by_cases hL : isLetter c
      · rw [if_pos hL, if_pos (L1.mp hL)]
        simp only [List.length_drop, nats_length]
        refine ⟨by omega, ?_, ?_⟩
        · congr 1; omega
        · simp only [toS, etaS, Prod.mk.injEq, true_and]; omega
      · rw [if_neg hL, if_neg (fun h => hL (L1.mpr h))]
        by_cases hS : isSign c
        · rw [if_pos hS, if_pos (S1.mp hS), hp1]
          cases e : rdT k ((nats s).drop (p + 1)) with
          | none => rw [e] at ihp; simpa using ihp
          | some x =>
            obtain ⟨t, r⟩ := x
            rw [e] at ihp
            simp only [Option.bind_some]
            obtain ⟨i1, i2, i3⟩ := ihp
            refine ⟨by omega, i2, ?_⟩
            rw [i3]
            simp only [toS, etaS]
        · rw [if_neg hS, if_neg (fun h => hS (S1.mpr h))]
          by_cases h40 : c = 40
          · rw [if_pos h40, if_neg (show ¬ ((c : Int) ≠ 40) by omega), hp1]
            cases e : rdT k ((nats s).drop (p + 1)) with
            | none => rw [e] at ihp; simp only at ihp; rw [if_pos (.inl ihp)]; rfl
            | some x =>
              obtain ⟨t, r⟩ := x
              rw [e] at ihp
              obtain ⟨i1, i2, i3⟩ := ihp
              simp only [Option.bind_some]
              rw [i3]
              simp only
              have hr1 : r.head? = some 43 ↔ ¬ (((s.size - r.length : Nat) : Int) = 0 ∨ (s.size : Int) ≤ ((s.size - r.length : Nat) : Int) ∨ bt s ((s.size - r.length : Nat) : Int) ≠ 43) := by
                have hrr : r.head? = (nats s)[s.size - r.length]? := by rw [← List.head?_drop, i2]
                rw [hrr]
                by_cases hz : r.length = 0
                · rw [List.getElem?_eq_none (by rw [nats_length]; omega)]
                  simp only [reduceCtorEq, false_iff, Decidable.not_not]
                  exact .inr (.inl (by omega))
                · rw [bt_nats s _ (by omega)]
                  have := bt_nonneg s ((s.size - r.length : Nat) : Int)
                  simp only [Option.some.injEq]
                  omega
              by_cases hh : r.head? = some 43
              · rw [if_pos hh, if_neg (hr1.mp hh)]
                have hz : 0 < r.length := by cases r with
                  | nil => simp at hh
                  | cons => simp
                have ht : r.tail = (nats s).drop (s.size - r.length + 1) := by
                  rw [← List.tail_drop, i2]
                have ihq := ih (s.size - r.length + 1) (by omega) (by omega)
                have hp2 : (((s.size - r.length : Nat) : Int) + 1) = ((s.size - r.length + 1 : Nat) : Int) := by omega
                rw [hp2, ht]
                cases e2 : rdT k ((nats s).drop (s.size - r.length + 1)) with
                | none => rw [e2] at ihq; simp only at ihq; rw [if_pos (.inl ihq)]; rfl
                | some y =>
                  obtain ⟨u, q⟩ := y
                  rw [e2] at ihq
                  obtain ⟨j1, j2, j3⟩ := ihq
                  simp only [Option.bind_some]
                  rw [j3]
                  simp only
                  have hr2 : q.head? = some 41 ↔ ¬ (((s.size - q.length : Nat) : Int) = 0 ∨ (s.size : Int) ≤ ((s.size - q.length : Nat) : Int) ∨ bt s ((s.size - q.length : Nat) : Int) ≠ 41) := by
                    have hrr : q.head? = (nats s)[s.size - q.length]? := by rw [← List.head?_drop, j2]
                    rw [hrr]
                    by_cases hz : q.length = 0
                    · rw [List.getElem?_eq_none (by rw [nats_length]; omega)]
                      simp only [reduceCtorEq, false_iff, Decidable.not_not]
                      exact .inr (.inl (by omega))
                    · rw [bt_nats s _ (by omega)]
                      have := bt_nonneg s ((s.size - q.length : Nat) : Int)
                      simp only [Option.some.injEq]
                      omega
                  by_cases hg : q.head? = some 41
                  · rw [if_pos hg, if_neg (hr2.mp hg)]
                    have hz2 : 0 < q.length := by cases q with
                      | nil => simp at hg
                      | cons => simp
                    simp only [List.length_tail]
                    refine ⟨by omega, ?_, ?_⟩
                    · rw [show s.size - (q.length - 1) = s.size - q.length + 1 by omega, ← List.tail_drop, j2]
                    · simp only [toS, etaS, Prod.mk.injEq, true_and]; omega
                  · rw [if_neg hg, if_pos (Decidable.not_not.mp (fun h => hg (hr2.mpr h)))]
              · rw [if_neg hh, if_pos (Decidable.not_not.mp (fun h => hh (hr1.mpr h)))]
          · rw [if_neg h40, if_pos (show (c : Int) ≠ 40 by omega)]
    · have hd : (nats s).drop p = [] := List.drop_eq_nil_of_le (by rw [nats_length]; omega)
      rw [hd, spec_l10Read.g_succ, if_neg (by omega)]
      simp [rdT]
theorem cut_tells (c : Nat) (l : ByteArray) : (impl_takeTerm.cut c l).2 = decide ((nats l).head? = some c) ∧ ((impl_takeTerm.cut c l).2 = true → nats (impl_takeTerm.cut c l).1 = (nats l).tail) := by
  unfold impl_takeTerm.cut
  by_cases h : 0 < l.size
  · have h0 := bt_nats l 0 h
    have hb := bt_nonneg l 0
    rw [List.head?_eq_getElem?, h0]
    by_cases hc : bt l 0 = c
    · rw [if_pos ⟨h, hc⟩]
      refine ⟨?_, fun _ => nats_extract l⟩
      simp [hc]
    · rw [if_neg (fun hh => hc hh.2)]
      refine ⟨?_, fun hh => by simp at hh⟩
      simp
      have h1 : bt l ((0 : Nat) : Int) = bt l 0 := rfl
      omega
  · rw [if_neg (fun hh => h hh.1)]
    have : nats l = [] := List.eq_nil_of_length_eq_zero (by rw [nats_length]; omega)
    rw [this]
    exact ⟨by simp, fun hh => by simp at hh⟩
theorem impl_reads : ∀ (k : Nat) (s : ByteArray), s.size < k →
    match rdT k (nats s) with
    | none => (impl_takeTerm.g k s).2.2.2 = false
    | some (t, r) => ∃ l, nats l = r ∧ impl_takeTerm.g k s = ((toI t).f0, (toI t).f1, l, true) := by
  intro k
  induction k with
  | zero => intro s hk; omega
  | succ k ih =>
    intro s hk
    rw [impl_takeTerm.g_succ]
    by_cases h0 : s.size = 0
    · have hd : nats s = [] := List.eq_nil_of_length_eq_zero (by rw [nats_length]; exact h0)
      rw [hd, if_pos h0]
      simp [rdT]
    · have h1 : 0 < s.size := by omega
      have hd : nats s = (bt s 0).toNat :: nats (s.extract 1 s.size) := by
        rw [nats_extract]
        have := bt_nats s 0 h1
        rw [← List.head?_eq_getElem?] at this
        exact head_tail this
      have hx : (s.extract 1 s.size).size = s.size - 1 := by simp only [ByteArray.size_extract]; omega
      have hb := bt_nonneg s 0
      obtain ⟨c, hc⟩ : ∃ c : Nat, bt s 0 = c := ⟨(bt s 0).toNat, by omega⟩
      have ih1 := ih (s.extract 1 s.size) (by omega)
      rw [hd, if_neg h0, hc]
      generalize s.extract 1 s.size = s1 at ih1 hx
      have L1 : isLetter c ↔ ((c : Int) = 101 ∨ (c : Int) = 110 ∨ (c : Int) = 119 ∨ (c : Int) = 115) := by unfold isLetter; omega
      have S1 : isSign c ↔ ((c : Int) = 45 ∨ (c : Int) = 64 ∨ (50 ≤ (c : Int) ∧ (c : Int) ≤ 57)) := by unfold isSign; omega
      simp only [Int.toNat_natCast, rdT]
      by_cases hL : isLetter c
      · rw [if_pos hL, if_pos (L1.mp hL)]
        exact ⟨s1, rfl, rfl⟩
      · rw [if_neg hL, if_neg (fun h => hL (L1.mpr h))]
        by_cases hS : isSign c
        · rw [if_pos hS, if_pos (S1.mp hS)]
          cases e : rdT k (nats s1) with
          | none => rw [e] at ih1; simpa using ih1
          | some x =>
            obtain ⟨t, r⟩ := x
            rw [e] at ih1
            obtain ⟨l, i1, i2⟩ := ih1
            simp only [Option.bind_some]
            refine ⟨l, i1, ?_⟩
            rw [i2]
            simp only [toI, etaI]
        · rw [if_neg hS, if_neg (fun h => hS (S1.mpr h))]
          by_cases h40 : c = 40
          · rw [if_pos h40, if_neg (show ¬ ((c : Int) ≠ 40) by omega)]
            cases e : rdT k (nats s1) with
            | none => rw [e] at ih1; simp only at ih1; rw [if_pos (.inl ih1)]; rfl
            | some x =>
              obtain ⟨t, r⟩ := x
              rw [e] at ih1
              obtain ⟨l, i1, i2⟩ := ih1
              simp only [Option.bind_some]
              rw [i2]
              simp only [Bool.true_eq_false, false_or]
              obtain ⟨c1, c2⟩ := cut_tells 43 l
              rw [i1] at c1 c2
              have e43 : ((43 : Nat) : Int) = 43 := rfl
              rw [e43] at c1 c2
              by_cases hh : r.head? = some 43
              · have c3 : (impl_takeTerm.cut 43 l).2 = true := by rw [c1]; exact decide_eq_true hh
                have hl : (impl_takeTerm.cut 43 l).1.size < k := by
                  have hlen := congrArg List.length (c2 c3)
                  have hlt := rd_len e
                  rw [nats_length, List.length_tail] at hlen
                  rw [nats_length] at hlt
                  omega
                have ih2 := ih (impl_takeTerm.cut 43 l).1 hl
                rw [if_pos hh, if_neg (by rw [c3]; decide)]
                rw [c2 c3] at ih2
                cases e2 : rdT k r.tail with
                | none => rw [e2] at ih2; simp only at ih2; rw [ih2]; rfl
                | some y =>
                  obtain ⟨u, q⟩ := y
                  rw [e2] at ih2
                  obtain ⟨m, j1, j2⟩ := ih2
                  simp only [Option.bind_some]
                  rw [j2]
                  simp only [Bool.true_and]
                  obtain ⟨d1, d2⟩ := cut_tells 41 m
                  rw [j1] at d1 d2
                  have e41 : ((41 : Nat) : Int) = 41 := rfl
                  rw [e41] at d1 d2
                  by_cases hg : q.head? = some 41
                  · have d3 : (impl_takeTerm.cut 41 m).2 = true := by rw [d1]; exact decide_eq_true hg
                    rw [if_pos hg, d3]
                    exact ⟨_, d2 d3, by rw [h40]; simp only [toI, etaI]; rfl⟩
                  · rw [if_neg hg]
                    simp only
                    rw [d1]
                    exact decide_eq_false hg
              · rw [if_neg hh, if_pos (by rw [c1]; exact decide_eq_false hh)]
          · rw [if_neg h40, if_pos (show (c : Int) ≠ 40 by omega)]
/-- What the reference's reader of a whole text tells. -/
theorem spec_of (s : ByteArray) : if s.size ≤ 60 then
      match isTerm (nats s) with
      | none => ∃ a b, spec_l10Of.f s = some (a, b, false)
      | some t => spec_l10Of.f s = some ((toS t).f0, (toS t).f1, true)
    else ∃ a b, spec_l10Of.f s = some (a, b, false) := by
  unfold spec_l10Of.f
  by_cases hs : s.size ≤ 60
  · rw [if_pos hs, if_neg (by omega)]
    have h := spec_reads s (s.size + 1) 0 (by omega) (by omega)
    unfold isTerm
    rw [nats_length]
    simp only [List.drop_zero, Nat.sub_zero] at h
    unfold spec_l10Read.f
    rw [if_pos hs, if_pos (by omega)]
    simp only [Option.bind_some]
    have e0 : ((0 : Nat) : Int) = 0 := rfl
    rw [e0] at h
    cases e : rdT (s.size + 1) (nats s) with
    | none =>
      rw [e] at h
      simp only at h
      rw [h]
      simp
    | some x =>
      obtain ⟨t, r⟩ := x
      rw [e] at h
      obtain ⟨h1, h2, h3⟩ := h
      simp only [Option.bind_some]
      rw [h3]
      simp only
      rw [if_pos (show ((s.size - r.length : Nat) : Int) > 0 by omega)]
      by_cases hr : r = []
      · subst hr
        simp
      · have : 0 < r.length := List.length_pos_iff.mpr hr
        rw [if_neg hr]
        have hne : (((s.size - r.length : Nat) : Int) == (s.size : Int)) = false := by simp; omega
        rw [hne]
        exact ⟨_, _, rfl⟩
  · rw [if_neg hs, if_pos (by omega)]
    exact ⟨_, _, rfl⟩
/-- What the program's reader of a whole text tells. -/
theorem impl_of (s : ByteArray) : if s.size ≤ 60 then
      match isTerm (nats s) with
      | none => ∃ a b, impl_readTerm.f s = some (a, b, false)
      | some t => impl_readTerm.f s = some ((toI t).f0, (toI t).f1, true)
    else ∃ a b, impl_readTerm.f s = some (a, b, false) := by
  unfold impl_readTerm.f
  by_cases hs : s.size ≤ 60
  · rw [if_pos hs, if_neg (by omega)]
    have h := impl_reads (s.size + 1) s (by omega)
    unfold isTerm
    rw [nats_length]
    unfold impl_takeTerm.f
    rw [if_pos hs]
    simp only [Option.bind_some]
    cases e : rdT (s.size + 1) (nats s) with
    | none =>
      rw [e] at h
      simp only at h
      rw [h]
      simp
    | some x =>
      obtain ⟨t, r⟩ := x
      rw [e] at h
      obtain ⟨l, h1, h2⟩ := h
      simp only [Option.bind_some]
      rw [h2]
      simp only [if_true]
      by_cases hr : r = []
      · subst hr
        have : l.toList = [] := by
          rw [Lib.toList_data]
          exact List.map_eq_nil_iff.mp h1
        rw [this]
        simp
      · rw [if_neg hr]
        have : (l.toList == ([] : List UInt8)) = false := by
          rw [Lib.toList_data]
          simp
          intro hh
          exact hr (by rw [← h1]; unfold nats; rw [hh]; rfl)
        rw [this]
        exact ⟨_, _, rfl⟩
  · rw [if_neg hs, if_pos (by omega)]
    exact ⟨_, _, rfl⟩
/-! ### walks -/
def turn (c : Nat) : Nat := if c = 101 then 110 else if c = 110 then 119 else if c = 119 then 115 else 101
def opp (c : Nat) : Nat := turn (turn c)
theorem turn_letter (c : Nat) : isLetter (turn c) := by
  unfold turn isLetter
  split
  · omega
  · split
    · omega
    · split <;> omega
theorem nats_inj {a b : ByteArray} (h : nats a = nats b) : a = b := by
  unfold nats at h
  have h2 : a.data.toList = b.data.toList := by
    refine List.map_inj_right ?_ |>.mp h
    intro x y hxy
    exact UInt8.toNat_inj.mp hxy
  cases a with
  | mk a =>
    cases b with
    | mk b => congr 1; exact Array.toList_inj.mp h2
theorem nats_nums (l : List Nat) (h : ∀ c ∈ l, c < 256) : nats (strOfNums (l.map (fun c : Nat => (c : Int)))) = l := by
  unfold nats
  rw [strOfNums_data, List.map_map, List.map_map]
  conv => rhs; rw [← List.map_id l]
  refine List.map_congr_left fun c hc => ?_
  have := h c hc
  simp only [Function.comp, Int.toNat_natCast, UInt8.toNat_ofNat', id]
  exact Nat.mod_eq_of_lt (by omega)
theorem letter_lt {c : Nat} (h : isLetter c) : c < 256 := by unfold isLetter at h; omega
theorem bt_nat (s : ByteArray) (i : Nat) (h : i < s.size) : ∃ c, bt s (i : Int) = (c : Nat) ∧ (nats s)[i]? = some c := by
  have h1 := bt_nats s i h
  have h2 := bt_nonneg s (i : Int)
  exact ⟨(bt s (i : Int)).toNat, by omega, h1⟩
theorem drop_at {l : List Nat} {i c : Nat} (h : l[i]? = some c) : l.drop i = c :: l.drop (i + 1) := by
  obtain ⟨hi, rfl⟩ := List.getElem?_eq_some_iff.mp h
  exact List.drop_eq_getElem_cons hi
def turns : Nat → Nat → Nat
  | 0, c => c
  | n + 1, c => turns n (turn c)
theorem turned_l (n : Nat) : ∀ (d k c i : Nat), i + d = n → n ≤ 3 → d < k → spec_l10Turned.l0 k (c : Int) (n : Int) (i : Int) = some ((turns d c : Nat) : Int) := by
  intro d
  induction d with
  | zero =>
    intro k c i hi hn hk
    obtain ⟨m, rfl⟩ : ∃ m, k = m + 1 := ⟨k - 1, by omega⟩
    rw [spec_l10Turned.l0, if_neg (by omega)]
    rfl
  | succ d ih =>
    intro k c i hi hn hk
    obtain ⟨m, rfl⟩ : ∃ m, k = m + 1 := ⟨k - 1, by omega⟩
    have hw : wrap64 ((i : Int) + 1) = ((i + 1 : Nat) : Int) := by unfold wrap64; omega
    rw [spec_l10Turned.l0, if_pos (by omega), hw]
    have h := fun c' => ih m c' (i + 1) (by omega) hn (by omega)
    by_cases c1 : c = 101
    · rw [if_pos (show (c : Int) = 101 by omega)]
      have e : turn c = 110 := by unfold turn; rw [if_pos c1]
      rw [turns, e]
      exact h 110
    · rw [if_neg (show ¬ (c : Int) = 101 by omega)]
      by_cases c2 : c = 110
      · rw [if_pos (show (c : Int) = 110 by omega)]
        have e : turn c = 119 := by unfold turn; rw [if_neg c1, if_pos c2]
        rw [turns, e]
        exact h 119
      · rw [if_neg (show ¬ (c : Int) = 110 by omega)]
        by_cases c3 : c = 119
        · rw [if_pos (show (c : Int) = 119 by omega)]
          have e : turn c = 115 := by unfold turn; rw [if_neg c1, if_neg c2, if_pos c3]
          rw [turns, e]
          exact h 115
        · rw [if_neg (show ¬ (c : Int) = 119 by omega)]
          have e : turn c = 101 := by unfold turn; rw [if_neg c1, if_neg c2, if_neg c3]
          rw [turns, e]
          exact h 101
theorem turned_1 (k c : Nat) (hk : 4 ≤ k) : spec_l10Turned.f k (c : Int) 1 = some ((turn c : Nat) : Int) := turned_l 1 1 k c 0 rfl (by omega) (by omega)
theorem turned_2 (k c : Nat) (hk : 4 ≤ k) : spec_l10Turned.f k (c : Int) 2 = some ((opp c : Nat) : Int) := turned_l 2 2 k c 0 rfl (by omega) (by omega)
theorem turned_3 (k c : Nat) (hk : 4 ≤ k) : spec_l10Turned.f k (c : Int) 3 = some ((turn (opp c) : Nat) : Int) := turned_l 3 3 k c 0 rfl (by omega) (by omega)
/-! ### tidy terms -/
def T.tidy : T → Nat → Bool → T
  | .leaf c, q, b => .leaf (if b = true then opp (turns q c) else turns q c)
  | .one c t, q, b => if c = 45 then t.tidy q (!b) else if c = 64 then t.tidy ((q + 1) % 4) b else .one c (t.tidy q b)
  | .two x y, q, b => if b = true then .two (y.tidy q b) (x.tidy q b) else .two (x.tidy q b) (y.tidy q b)
theorem turns_letter : ∀ (n c : Nat), isLetter c → isLetter (turns n c)
  | 0, _, h => h
  | n + 1, c, _ => turns_letter n (turn c) (turn_letter c)
theorem T.tidy_size : ∀ (t : T) (q : Nat) (b : Bool), (t.tidy q b).text.length ≤ t.text.length
  | .leaf c, q, b => by simp [T.tidy, T.text]
  | .one c t, q, b => by
    unfold T.tidy
    simp only [T.text, List.length_cons]
    split
    · have := T.tidy_size t q (!b); omega
    · split
      · have := T.tidy_size t ((q + 1) % 4) b; omega
      · have := T.tidy_size t q b; simp only [T.text, List.length_cons]; omega
  | .two x y, q, b => by
    have h1 := T.tidy_size x q b
    have h2 := T.tidy_size y q b
    unfold T.tidy
    rw [T.text_two x y]
    split <;> rw [T.text_two] <;> omega
theorem nats_lit1 (c : Nat) (h : c < 256) : nats (strOfNums [(c : Int)]) = [c] := nats_nums [c] (by simpa using h)
theorem size_lit1 (c : Int) : (strOfNums [c]).size = 1 := rfl
theorem nats_two (x y : ByteArray) : nats (((((⟨#[40]⟩ : ByteArray) ++ x) ++ (⟨#[43]⟩ : ByteArray)) ++ y) ++ (⟨#[41]⟩ : ByteArray)) = 40 :: (nats x ++ 43 :: (nats y ++ [41])) := by
  rw [nats_append, nats_append, nats_append, nats_append]
  have e1 : nats (⟨#[40]⟩ : ByteArray) = [40] := rfl
  have e2 : nats (⟨#[43]⟩ : ByteArray) = [43] := rfl
  have e3 : nats (⟨#[41]⟩ : ByteArray) = [41] := rfl
  rw [e1, e2, e3]
  simp
theorem size_tx {s : ByteArray} {l : List Nat} {n : Nat} (h : nats s = l) (hl : l.length ≤ n) : s.size ≤ n := by rw [← nats_length, h]; exact hl
def termOf (s : ByteArray) : Option T := if s.size ≤ 60 then isTerm (nats s) else none
theorem same_list {a b : ByteArray} (h : a = b) : a.toList = b.toList := by rw [h]
theorem spec_tidy : ∀ (t : T), t.ok → t.text.length ≤ 60 → ∀ (q : Nat) (b : Bool), q < 4 → ∀ k, 3 * t.text.length + 10 ≤ k → ∃ s, spec_l10Tidy.f k (toS t).f0 (toS t).f1 (q : Int) b = some s ∧ nats s = (t.tidy q b).text := by
  intro t
  induction t with
  | leaf c =>
    intro ho hl q b hq k hk
    obtain ⟨m, rfl⟩ : ∃ m, k = m + 3 := ⟨k - 3, by omega⟩
    have hoo : isLetter c := ho
    have hc := letter_lt hoo
    have ho : isLetter c := ho
    unfold isLetter at ho
    have hT := turned_l q q m c 0 (by omega) (by omega) (by omega)
    have e0 : ((0 : Nat) : Int) = 0 := rfl
    rw [e0] at hT
    simp only [toS]
    rw [spec_l10Tidy.f, if_neg (by omega), if_neg (by omega), if_neg (by omega), spec_l10Tidy.j0, if_neg (by decide), if_neg (by omega), if_pos (by omega), if_neg (by omega), spec_l10Tidy.j1, spec_l10Turned.f]
    have hm : 4 ≤ m := by simp only [T.text, List.length_cons, List.length_nil] at hk; omega
    rw [hT]
    simp only [Option.bind_some]
    have hl2 := turns_letter q c hoo
    cases b with
    | true =>
      rw [if_pos rfl, turned_2 m _ hm]
      simp only [Option.bind_some]
      exact ⟨_, rfl, by rw [nats_lit1 (opp (turns q c)) (letter_lt (turn_letter _))]; rfl⟩
    | false =>
      rw [if_neg (by decide)]
      exact ⟨_, rfl, by rw [nats_lit1 (turns q c) (letter_lt hl2)]; rfl⟩
  | one c t ih =>
    intro ho hl q b hq k hk
    simp only [T.text, List.length_cons] at hk hl
    obtain ⟨m, rfl⟩ : ∃ m, k = m + 3 := ⟨k - 3, by omega⟩
    have hc : isSign c := ho.1
    unfold isSign at hc
    have h0 : (0 : Int) < (([toS t].length : Nat) : Int) := by simp
    have hg : rd_T34 [toS t] 0 = toS t := rfl
    simp only [toS]
    rw [spec_l10Tidy.f]
    by_cases c1 : c = 45
    · obtain ⟨s, h1, h2⟩ := ih ho.2 (by omega) q (!b) hq (m + 2) (by omega)
      rw [if_pos (show (c : Int) = 45 by omega), if_pos h0, hg, h1]
      refine ⟨s, rfl, ?_⟩
      conv => rhs; unfold T.tidy
      rw [if_pos c1, h2]
    · rw [if_neg (show ¬ (c : Int) = 45 by omega)]
      by_cases c2 : c = 64
      · obtain ⟨s, h1, h2⟩ := ih ho.2 (by omega) ((q + 1) % 4) b (by omega) (m + 2) (by omega)
        have hw : Int.tmod (wrap64 ((q : Int) + 1)) 4 = (((q + 1) % 4 : Nat) : Int) := by
          rw [show wrap64 ((q : Int) + 1) = ((q + 1 : Nat) : Int) by unfold wrap64; omega, Int.tmod_eq_emod_of_nonneg (by omega)]
          rfl
        rw [if_pos (show (c : Int) = 64 by omega), if_pos h0, hg, hw, h1]
        refine ⟨s, rfl, ?_⟩
        conv => rhs; unfold T.tidy
        rw [if_neg c1, if_pos c2, h2]
      · obtain ⟨s, h1, h2⟩ := ih ho.2 (by omega) q b hq (m + 1) (by omega)
        have hz := size_tx h2 (T.tidy_size t q b)
        rw [if_neg (show ¬ (c : Int) = 64 by omega), if_neg (show ¬ (c : Int) = 43 by omega), spec_l10Tidy.j0, if_neg (by decide), if_neg (show ¬ (c : Int) = 43 by omega), if_pos (show (c : Int) ≥ 50 by omega), if_pos (show (c : Int) ≤ 57 by omega)]
        simp only [Option.bind_some]
        rw [if_pos h0, hg, h1]
        simp only [Option.bind_some]
        rw [if_pos (by rw [size_lit1]; omega)]
        refine ⟨_, rfl, ?_⟩
        conv => rhs; unfold T.tidy
        rw [if_neg c1, if_neg c2, nats_append, nats_lit1 _ (by omega), h2]
        rfl
  | two x y ihx ihy =>
    intro ho hl q b hq k hk
    rw [T.text_two] at hk hl
    obtain ⟨m, rfl⟩ : ∃ m, k = m + 3 := ⟨k - 3, by omega⟩
    obtain ⟨s, h1, h2⟩ := ihx ho.1 (by omega) q b hq (m + 1) (by omega)
    obtain ⟨u, h3, h4⟩ := ihy ho.2 (by omega) q b hq (m + 1) (by omega)
    have hz := size_tx h2 (T.tidy_size x q b)
    have hz' := size_tx h4 (T.tidy_size y q b)
    have hg : rd_T34 [toS x, toS y] 0 = toS x := rfl
    have hh : rd_T34 [toS x, toS y] 1 = toS y := rfl
    have hl0 : (0 : Int) < (([toS x, toS y].length : Nat) : Int) := by simp
    have hl1 : (1 : Int) < (([toS x, toS y].length : Nat) : Int) := by simp
    have z1 : (⟨#[40]⟩ : ByteArray).size = 1 := rfl
    have z2 : (⟨#[43]⟩ : ByteArray).size = 1 := rfl
    simp only [toS]
    rw [spec_l10Tidy.f, if_neg (by decide), if_neg (by decide), if_pos rfl, spec_l10Tidy.j0]
    cases b with
    | true =>
      rw [if_pos rfl, if_pos hl1, hh, h3]
      simp only [Option.bind_some]
      rw [if_pos (by omega), if_pos (by simp only [ByteArray.size_append]; omega), if_pos hl0, hg, h1]
      simp only [Option.bind_some]
      rw [if_pos (by simp only [ByteArray.size_append]; omega), if_pos (by simp only [ByteArray.size_append]; omega)]
      refine ⟨_, rfl, ?_⟩
      rw [nats_two, h2, h4]
      rfl
    | false =>
      rw [if_neg (by decide), if_pos rfl, if_pos hl0, hg, h1]
      simp only [Option.bind_some]
      rw [if_pos (by omega), if_pos (by simp only [ByteArray.size_append]; omega), if_pos hl1, hh, h3]
      simp only [Option.bind_some]
      rw [if_pos (by simp only [ByteArray.size_append]; omega), if_pos (by simp only [ByteArray.size_append]; omega)]
      refine ⟨_, rfl, ?_⟩
      rw [nats_two, h2, h4]
      rfl
theorem tidy_tell_spec (s : ByteArray) (k : Nat) (hk : 300 ≤ k) : match termOf s with
    | none => spec_TermTidy.f k s = some (⟨#[]⟩, false)
    | some t => ∃ r, spec_TermTidy.f k s = some (r, true) ∧ nats r = (t.tidy 0 false).text := by
  have h := spec_of s
  unfold spec_TermTidy.f termOf
  by_cases hs : s.size ≤ 60
  · rw [if_pos hs] at h ⊢
    cases e : isTerm (nats s) with
    | none =>
      rw [e] at h
      obtain ⟨a, b, h⟩ := h
      rw [h]
      rfl
    | some t =>
      rw [e] at h
      simp only at h ⊢
      obtain ⟨ho, hl⟩ := isTerm_some.mp e
      have hz := nats_length s
      rw [hl] at hz
      obtain ⟨r, h1, h2⟩ := spec_tidy t ho (by omega) 0 false (by omega) k (by omega)
      have e0 : ((0 : Nat) : Int) = 0 := rfl
      rw [e0] at h1
      rw [h]
      simp only [Option.bind_some, if_true]
      rw [h1]
      exact ⟨r, rfl, h2⟩
  · rw [if_neg hs] at h ⊢
    obtain ⟨a, b, h⟩ := h
    rw [h]
    rfl
theorem letter_at (w : Nat) (hw : w < 4) : nats ((⟨#[101, 110, 119, 115]⟩ : ByteArray).extract ((w : Nat) : Int).toNat (((w : Nat) : Int) + 1).toNat) = [turns w 101] := by
  have : w = 0 ∨ w = 1 ∨ w = 2 ∨ w = 3 := by omega
  rcases this with rfl | rfl | rfl | rfl <;> decide
theorem way_of {c : Nat} (h : isLetter c) : ∃ w, w < 4 ∧ c = turns w 101 ∧ impl_wayOf.f (c : Int) = some ((w : Nat) : Int) := by
  unfold isLetter at h
  rcases h with rfl | rfl | rfl | rfl
  · exact ⟨0, by omega, by decide, rfl⟩
  · exact ⟨1, by omega, by decide, rfl⟩
  · exact ⟨2, by omega, by decide, rfl⟩
  · exact ⟨3, by omega, by decide, rfl⟩
theorem turns_way (w q : Nat) (hw : w < 4) (hq : q < 4) : turns q (turns w 101) = turns ((w + q) % 4) 101 ∧ opp (turns q (turns w 101)) = turns ((w + q + 2) % 4) 101 := by
  have h1 : w = 0 ∨ w = 1 ∨ w = 2 ∨ w = 3 := by omega
  have h2 : q = 0 ∨ q = 1 ∨ q = 2 ∨ q = 3 := by omega
  rcases h1 with rfl | rfl | rfl | rfl <;> rcases h2 with rfl | rfl | rfl | rfl <;> decide
theorem leaf_nums (w q : Nat) (hw : w < 4) (hq : q < 4) : wrap64 ((w : Int) + (q : Int)) = ((w + q : Nat) : Int) ∧ wrap64 (((w + q : Nat) : Int) + 2) = ((w + q + 2 : Nat) : Int) ∧ Int.tmod ((w + q + 2 : Nat) : Int) 4 = (((w + q + 2) % 4 : Nat) : Int) ∧ Int.tmod ((w + q : Nat) : Int) 4 = (((w + q) % 4 : Nat) : Int) ∧ (w + q + 2) % 4 < 4 ∧ (w + q) % 4 < 4 := by
  refine ⟨by unfold wrap64; omega, by unfold wrap64; omega, ?_, ?_, by omega, by omega⟩
  · rw [Int.tmod_eq_emod_of_nonneg (by omega)]; rfl
  · rw [Int.tmod_eq_emod_of_nonneg (by omega)]; rfl
theorem leaf_cut (x : Nat) (hx : x < 4) : (if 0 ≤ (x : Int) then (if (x : Int) ≤ wrap64 ((x : Int) + 1) then (if wrap64 ((x : Int) + 1) ≤ 4 then some ((⟨#[101, 110, 119, 115]⟩ : ByteArray).extract (x : Int).toNat (wrap64 ((x : Int) + 1)).toNat) else none) else none) else none) = some ((⟨#[101, 110, 119, 115]⟩ : ByteArray).extract (x : Int).toNat ((x : Int) + 1).toNat) := by
  rw [show wrap64 ((x : Int) + 1) = (x : Int) + 1 by unfold wrap64; omega, if_pos (by omega), if_pos (by omega), if_pos (by omega)]
theorem impl_tidy : ∀ (t : T), t.ok → t.text.length ≤ 60 → ∀ (q : Nat) (b : Bool), q < 4 → ∀ k, t.text.length + 10 ≤ k → ∃ s, impl_term_tidy.f k (toI t).f0 (toI t).f1 b (q : Int) = some s ∧ nats s = (t.tidy q b).text := by
  intro t
  induction t with
  | leaf c =>
    intro ho hl q b hq k hk
    obtain ⟨m, rfl⟩ : ∃ m, k = m + 1 := ⟨k - 1, by omega⟩
    have ho : isLetter c := ho
    obtain ⟨w, hw, hc, hwf⟩ := way_of ho
    obtain ⟨e1, e2, e3, e4, hx, hy⟩ := leaf_nums w q hw hq
    obtain ⟨t1, t2⟩ := turns_way w q hw hq
    simp only [toI]
    rw [impl_term_tidy.f, if_pos (show (([] : List S39).length : Int) = 0 from rfl), hwf]
    simp only [Option.bind_some]
    rw [e1, e2, e3, e4, leaf_cut _ hx, leaf_cut _ hy]
    have q1 := letter_at _ hx
    have q2 := letter_at _ hy
    rw [← t2, ← hc] at q1
    rw [← t1, ← hc] at q2
    cases b with
    | true => exact ⟨_, if_pos rfl, q1⟩
    | false => exact ⟨_, if_neg (by decide), q2⟩
  | one c t ih =>
    intro ho hl q b hq k hk
    simp only [T.text, List.length_cons] at hk hl
    obtain ⟨m, rfl⟩ : ∃ m, k = m + 1 := ⟨k - 1, by omega⟩
    have hc : isSign c := ho.1
    unfold isSign at hc
    have h0 : (0 : Int) < (([toI t].length : Nat) : Int) := by simp
    have hg : rd_T39 [toI t] 0 = toI t := rfl
    simp only [toI]
    rw [impl_term_tidy.f, if_neg (by simp)]
    by_cases c1 : c = 45
    · obtain ⟨s, h1, h2⟩ := ih ho.2 (by omega) q (!b) hq m (by omega)
      rw [if_pos (show (c : Int) = 45 by omega), if_pos h0, hg, h1]
      refine ⟨s, rfl, ?_⟩
      conv => rhs; unfold T.tidy
      rw [if_pos c1, h2]
    · rw [if_neg (show ¬ (c : Int) = 45 by omega)]
      by_cases c2 : c = 64
      · obtain ⟨s, h1, h2⟩ := ih ho.2 (by omega) ((q + 1) % 4) b (by omega) m (by omega)
        have hw : Int.tmod (wrap64 ((q : Int) + 1)) 4 = (((q + 1) % 4 : Nat) : Int) := by
          rw [show wrap64 ((q : Int) + 1) = ((q + 1 : Nat) : Int) by unfold wrap64; omega, Int.tmod_eq_emod_of_nonneg (by omega)]
          rfl
        rw [if_pos (show (c : Int) = 64 by omega), if_pos h0, hg, hw, h1]
        refine ⟨s, rfl, ?_⟩
        conv => rhs; unfold T.tidy
        rw [if_neg c1, if_pos c2, h2]
      · obtain ⟨s, h1, h2⟩ := ih ho.2 (by omega) q b hq m (by omega)
        have hz := size_tx h2 (T.tidy_size t q b)
        rw [if_neg (show ¬ (c : Int) = 64 by omega), if_neg (show ¬ (c : Int) = 40 by omega)]
        simp only [Option.bind_some]
        rw [if_pos h0, hg, h1]
        simp only [Option.bind_some]
        rw [if_pos (by rw [size_lit1]; omega)]
        refine ⟨_, rfl, ?_⟩
        conv => rhs; unfold T.tidy
        rw [if_neg c1, if_neg c2, nats_append, nats_lit1 _ (by omega), h2]
        rfl
  | two x y ihx ihy =>
    intro ho hl q b hq k hk
    rw [T.text_two] at hk hl
    obtain ⟨m, rfl⟩ : ∃ m, k = m + 1 := ⟨k - 1, by omega⟩
    obtain ⟨s, h1, h2⟩ := ihx ho.1 (by omega) q b hq m (by omega)
    obtain ⟨u, h3, h4⟩ := ihy ho.2 (by omega) q b hq m (by omega)
    have hz := size_tx h2 (T.tidy_size x q b)
    have hz' := size_tx h4 (T.tidy_size y q b)
    have hg : rd_T39 [toI x, toI y] 0 = toI x := rfl
    have hh : rd_T39 [toI x, toI y] 1 = toI y := rfl
    have hl0 : (0 : Int) < (([toI x, toI y].length : Nat) : Int) := by simp
    have hl1 : (1 : Int) < (([toI x, toI y].length : Nat) : Int) := by simp
    have z1 : (⟨#[40]⟩ : ByteArray).size = 1 := rfl
    have z2 : (⟨#[43]⟩ : ByteArray).size = 1 := rfl
    simp only [toI]
    rw [impl_term_tidy.f, if_neg (by simp), if_neg (by decide), if_neg (by decide), if_pos rfl, if_pos hl0, hg, h1]
    simp only [Option.bind_some]
    rw [if_pos hl1, hh, h3]
    simp only [Option.bind_some]
    cases b with
    | true =>
      rw [if_pos rfl, if_pos (by omega), if_pos (by simp only [ByteArray.size_append]; omega), if_pos (by simp only [ByteArray.size_append]; omega), if_pos (by simp only [ByteArray.size_append]; omega)]
      refine ⟨_, rfl, ?_⟩
      rw [nats_two, h2, h4]
      rfl
    | false =>
      rw [if_neg (by decide), if_pos (by omega), if_pos (by simp only [ByteArray.size_append]; omega), if_pos (by simp only [ByteArray.size_append]; omega), if_pos (by simp only [ByteArray.size_append]; omega)]
      refine ⟨_, rfl, ?_⟩
      rw [nats_two, h2, h4]
      rfl
theorem tidy_tell_impl (s : ByteArray) (k : Nat) (hk : 300 ≤ k) : match termOf s with
    | none => impl_TermTidy.f k s = some (⟨#[]⟩, false)
    | some t => ∃ r, impl_TermTidy.f k s = some (r, true) ∧ nats r = (t.tidy 0 false).text := by
  have h := impl_of s
  unfold impl_TermTidy.f termOf
  by_cases hs : s.size ≤ 60
  · rw [if_pos hs] at h ⊢
    cases e : isTerm (nats s) with
    | none =>
      rw [e] at h
      obtain ⟨a, b, h⟩ := h
      rw [h]
      rfl
    | some t =>
      rw [e] at h
      simp only at h ⊢
      obtain ⟨ho, hl⟩ := isTerm_some.mp e
      have hz := nats_length s
      rw [hl] at hz
      obtain ⟨r, h1, h2⟩ := impl_tidy t ho (by omega) 0 false (by omega) k (by omega)
      have e0 : ((0 : Nat) : Int) = 0 := rfl
      rw [e0] at h1
      rw [h]
      simp only [Option.bind_some, if_true]
      rw [h1]
      exact ⟨r, rfl, h2⟩
  · rw [if_neg hs] at h ⊢
    obtain ⟨a, b, h⟩ := h
    rw [h]
    rfl
theorem FnExactTermTidy : laws_FnExactTermTidy.Pure := by
  intro s hs
  refine ⟨300, ?_⟩
  have h1 := tidy_tell_spec s 300 (by omega)
  have h2 := tidy_tell_impl s 300 (by omega)
  unfold laws_FnExactTermTidy.f
  split
  · rfl
  · cases e : termOf s with
    | none =>
      rw [e] at h1 h2
      simp only at h1 h2
      rw [h1, h2]
      simp
    | some t =>
      rw [e] at h1 h2
      obtain ⟨a, h1, h3⟩ := h1
      obtain ⟨b, h2, h4⟩ := h2
      have : a = b := nats_inj (h3.trans h4.symm)
      subst this
      rw [h1, h2]
      simp

end Go.Proofs.Ytdimlajglamomaa.Pure
