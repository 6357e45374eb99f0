/- The law FnExactTermEnd, as a statement over plain numbers and lists, is proved: what the program's functions compute is what the reference's compute. -/
import Derived.Test.YtdimlajglamomaaPFnExactTermEndx6
namespace Go.Proofs.Ytdimlajglamomaa.Pure
open Go.RowKit Go.Proofs.Ytdimlajglamomaa.PFnExactTermEnd Go.Proofs.YtdimlajglamomaaW.PrintWords Go.Proofs.YtdimlajglamomaaW.PrintLast
set_option linter.unusedVariables false
set_option linter.unusedSimpArgs false
/-! ### terms, as plain trees -/
inductive T where
  | leaf (c : Nat)
  | one (c : Nat) (t : T)
  | two (a b : T)
def isLetter (c : Nat) : Prop := c = 101 ∨ c = 110 ∨ c = 119 ∨ c = 115
instance (c : Nat) : Decidable (isLetter c) := by unfold isLetter; infer_instance
def isSign (c : Nat) : Prop := c = 45 ∨ c = 64 ∨ (50 ≤ c ∧ c ≤ 57)
instance (c : Nat) : Decidable (isSign c) := by unfold isSign; infer_instance
theorem letter_sign {c : Nat} (h : isLetter c) : ¬ isSign c := by unfold isLetter at h; unfold isSign; omega
def T.ok : T → Prop
  | .leaf c => isLetter c
  | .one c t => isSign c ∧ t.ok
  | .two a b => a.ok ∧ b.ok
/-- The text of a term. -/
def T.text : T → List Nat
  | .leaf c => [c]
  | .one c t => c :: t.text
  | .two a b => 40 :: (a.text ++ 43 :: (b.text ++ [41]))
/-- Reads a term. -/
def rdT : Nat → List Nat → Option (T × List Nat)
  | 0, _ => none
  | _ + 1, [] => none
  | k + 1, c :: l =>
    if isLetter c then some (.leaf c, l)
    else if isSign c then (rdT k l).bind fun p => some (.one c p.1, p.2)
    else if c = 40 then
      (rdT k l).bind fun p =>
        if p.2.head? = some 43 then
          (rdT k p.2.tail).bind fun q => if q.2.head? = some 41 then some (.two p.1 q.1, q.2.tail) else none
        else none
    else none
theorem T.text_pos (t : T) : 0 < t.text.length := by cases t <;> simp [T.text]
theorem head_tail {l : List Nat} {c : Nat} (h : l.head? = some c) : l = c :: l.tail := by
  cases l with
  | nil => simp at h
  | cons x r => simp at h; rw [h]; rfl
theorem rd_sound : ∀ (k : Nat) (l : List Nat) (t : T) (r : List Nat), rdT k l = some (t, r) → t.ok ∧ l = t.text ++ r := by
  intro k
  induction k with
  | zero => intro l t r h; simp [rdT] at h
  | succ k ih =>
    intro l t r h
    cases l with
    | nil => simp [rdT] at h
    | cons c l =>
      simp only [rdT] at h
      split at h
      · next hc => simp only [Option.some.injEq, Prod.mk.injEq] at h; obtain ⟨rfl, rfl⟩ := h; exact ⟨hc, rfl⟩
      · split at h
        · next hc =>
          obtain ⟨⟨t1, r1⟩, h1, h2⟩ := Option.bind_eq_some_iff.mp h
          simp only [Option.some.injEq, Prod.mk.injEq] at h2
          obtain ⟨rfl, rfl⟩ := h2
          have := ih _ _ _ h1
          exact ⟨⟨hc, this.1⟩, by rw [this.2]; rfl⟩
        · split at h
          · next hc =>
            obtain ⟨⟨t1, r1⟩, h1, h2⟩ := Option.bind_eq_some_iff.mp h
            split at h2
            · next hp =>
              obtain ⟨⟨t2, r2⟩, h3, h4⟩ := Option.bind_eq_some_iff.mp h2
              split at h4
              · next hq =>
                simp only [Option.some.injEq, Prod.mk.injEq] at h4
                obtain ⟨rfl, rfl⟩ := h4
                have i1 := ih _ _ _ h1
                have i2 := ih _ _ _ h3
                have e1 := head_tail hp
                have e2 := head_tail hq
                refine ⟨⟨i1.1, i2.1⟩, ?_⟩
                simp only at e1 e2 i1 i2
                rw [hc, i1.2, e1, i2.2, e2]
                simp [T.text]
              · simp at h4
            · simp at h2
          · simp at h
theorem rd_full : ∀ (t : T) (k : Nat) (r : List Nat), t.ok → t.text.length < k → rdT k (t.text ++ r) = some (t, r) := by
  intro t
  induction t with
  | leaf c =>
    intro k r ho hk
    obtain ⟨k, rfl⟩ : ∃ m, k = m + 1 := ⟨k - 1, by omega⟩
    simp only [T.text, List.cons_append, List.nil_append, rdT]
    rw [if_pos (show isLetter c from ho)]
  | one c t ih =>
    intro k r ho hk
    obtain ⟨k, rfl⟩ : ∃ m, k = m + 1 := ⟨k - 1, by omega⟩
    simp only [T.text, List.length_cons] at hk
    simp only [T.text, List.cons_append, rdT]
    rw [if_neg (fun h => letter_sign h ho.1), if_pos ho.1, ih k r ho.2 (by omega)]
    rfl
  | two a b iha ihb =>
    intro k r ho hk
    obtain ⟨k, rfl⟩ : ∃ m, k = m + 1 := ⟨k - 1, by omega⟩
    simp only [T.text, List.length_cons, List.length_append, List.length_nil] at hk
    simp only [T.text, List.cons_append, List.append_assoc, List.nil_append, rdT]
    rw [if_neg (show ¬ isLetter 40 by decide), if_neg (show ¬ isSign 40 by decide)]
    simp only [if_true]
    rw [iha k _ ho.1 (by omega)]
    simp only [Option.bind_some, List.head?_cons, if_true, List.tail_cons]
    rw [ihb k _ ho.2 (by omega)]
    simp
/-- A term at the head of a text is there whatever the rounds. -/
theorem rd_rounds {k k' : Nat} {l : List Nat} (h : l.length < k) (h' : l.length < k') : rdT k l = rdT k' l := by
  have key : ∀ k k', l.length < k → l.length < k' → ∀ x, rdT k l = some x → rdT k' l = some x := by
    intro k k' h h' x hx
    obtain ⟨ho, hl⟩ := rd_sound k l x.1 x.2 hx
    rw [hl]
    refine rd_full _ _ _ ho ?_
    have := congrArg List.length hl
    simp at this
    omega
  cases e : rdT k l with
  | some x => exact (key k k' h h' x e).symm
  | none =>
    cases e' : rdT k' l with
    | none => rfl
    | some x => have := key k' k h' h x e'; rw [e] at this; simp at this
theorem rd_len {k : Nat} {l : List Nat} {t : T} {r : List Nat} (h : rdT k l = some (t, r)) : r.length < l.length := by
  have := rd_sound k l t r h
  have hp := t.text_pos
  rw [this.2]
  simp
  omega
/-- A text is a term. -/
def isTerm (l : List Nat) : Option T := (rdT (l.length + 1) l).bind fun p => if p.2 = [] then some p.1 else none
theorem isTerm_text {t : T} (h : t.ok) : isTerm t.text = some t := by
  unfold isTerm
  have := rd_full t (t.text.length + 1) [] h (by omega)
  rw [List.append_nil] at this
  rw [this]
  rfl
theorem isTerm_some {l : List Nat} {t : T} : isTerm l = some t ↔ t.ok ∧ l = t.text := by
  constructor
  · intro h
    unfold isTerm at h
    obtain ⟨⟨t1, r1⟩, h1, h2⟩ := Option.bind_eq_some_iff.mp h
    split at h2
    · next hr =>
      injection h2 with h2
      simp only at hr h2
      subst hr h2
      have := rd_sound _ _ _ _ h1
      rwa [List.append_nil] at this
    · simp at h2
  · rintro ⟨h, rfl⟩
    exact isTerm_text h
/-- The bytes of a string as numbers. -/
def nats (s : ByteArray) : List Nat := s.data.toList.map UInt8.toNat
theorem nats_length (s : ByteArray) : (nats s).length = s.size := by simp [nats]
theorem bt_nats (s : ByteArray) (i : Nat) (h : i < s.size) : (nats s)[i]? = some (bt s (i : Int)).toNat := by
  unfold nats bt
  rw [dif_pos (by simpa using h)]
  simp only [List.getElem?_map, Int.toNat_natCast]
  have hl : i < s.data.toList.length := by simpa using h
  rw [List.getElem?_eq_getElem hl]
  rfl
theorem nats_extract (s : ByteArray) : nats (s.extract 1 s.size) = (nats s).tail := by
  unfold nats
  rw [Lib.extract_data]
  have : (s.data.toList.drop 1).take (s.size - 1) = s.data.toList.drop 1 := by
    apply List.take_of_length_le
    simp
  rw [this]
  simp
/-! ### how the two readers read -/
def toS : T → S34
  | .leaf c => ⟨c, []⟩
  | .one c t => ⟨c, [toS t]⟩
  | .two a b => ⟨43, [toS a, toS b]⟩
def toI : T → S39
  | .leaf c => ⟨c, []⟩
  | .one c t => ⟨c, [toI t]⟩
  | .two a b => ⟨40, [toI a, toI b]⟩
theorem etaS (x : S34) : (⟨x.f0, x.f1⟩ : S34) = x := by cases x; rfl
theorem etaI (x : S39) : (⟨x.f0, x.f1⟩ : S39) = x := by cases x; rfl
theorem bt_nonneg (s : ByteArray) (i : Int) : 0 ≤ bt s i := (bt_range s i).1
theorem spec_reads (s : ByteArray) : ∀ (k p : Nat), p ≤ s.size → s.size - p < k →
    match rdT k ((nats s).drop p) with
    | none => (spec_l10Read.g s k (p : Int)).2.2 = 0
    | some (t, r) => r.length < s.size - p ∧ (nats s).drop (s.size - r.length) = r ∧ spec_l10Read.g s k (p : Int) = ((toS t).f0, (toS t).f1, ((s.size - r.length : Nat) : Int)) := by
  intro k
  induction k with
  | zero => intro p hp hk; omega
  | succ k ih =>
    intro p hp hk
    by_cases h1 : p < s.size
    · have hd : (nats s).drop p = (bt s p).toNat :: (nats s).drop (p + 1) := by
        have hl : p < (nats s).length := by rw [nats_length]; exact h1
        rw [List.drop_eq_getElem_cons hl]
        have := bt_nats s p h1
        rw [List.getElem?_eq_getElem hl] at this
        injection this with this
        rw [this]
      have hb := bt_nonneg s (p : Int)
      obtain ⟨c, hc⟩ : ∃ c : Nat, bt s (p : Int) = c := ⟨(bt s (p : Int)).toNat, by omega⟩
      have ihp := ih (p + 1) (by omega) (by omega)
      rw [hd, spec_l10Read.g_succ, if_pos (by omega), hc]
      have L1 : isLetter c ↔ ((c : Int) = 110 ∨ (c : Int) = 101 ∨ (c : Int) = 115 ∨ (c : Int) = 119) := by unfold isLetter; omega
      have S1 : isSign c ↔ ((c : Int) = 45 ∨ (c : Int) = 64 ∨ (50 ≤ (c : Int) ∧ (c : Int) ≤ 57)) := by unfold isSign; omega
      simp only [Int.toNat_natCast, rdT]
      have hp1 : ((p : Int) + 1) = ((p + 1 : Nat) : Int) := by omega
      by_cases hL : isLetter c
      · rw [if_pos hL, if_pos (L1.mp hL)]
        simp only [List.length_drop, nats_length]
        refine ⟨by omega, ?_, ?_⟩
        · congr 1; omega
        · simp only [toS, etaS, Prod.mk.injEq, true_and]; omega
      · rw [if_neg hL, if_neg (fun h => hL (L1.mpr h))]
        by_cases hS : isSign c
        · rw [if_pos hS, if_pos (S1.mp hS), hp1]
          cases e : rdT k ((nats s).drop (p + 1)) with
          | none => rw [e] at ihp; simpa using ihp
          | some x =>
            obtain ⟨t, r⟩ := x
            rw [e] at ihp
            simp only [Option.bind_some]
            obtain ⟨i1, i2, i3⟩ := ihp
            refine ⟨by omega, i2, ?_⟩
            rw [i3]
            simp only [toS, etaS]
        · rw [if_neg hS, if_neg (fun h => hS (S1.mpr h))]
          by_cases h40 : c = 40
          · rw [if_pos h40, if_neg (show ¬ ((c : Int) ≠ 40) by omega), hp1]
            cases e : rdT k ((nats s).drop (p + 1)) with
            | none => rw [e] at ihp; simp only at ihp; rw [if_pos (.inl ihp)]; rfl
            | some x =>
              obtain ⟨t, r⟩ := x
              rw [e] at ihp
              obtain ⟨i1, i2, i3⟩ := ihp
              simp only [Option.bind_some]
              rw [i3]
              simp only
              have hr1 : r.head? = some 43 ↔ ¬ (((s.size - r.length : Nat) : Int) = 0 ∨ (s.size : Int) ≤ ((s.size - r.length : Nat) : Int) ∨ bt s ((s.size - r.length : Nat) : Int) ≠ 43) := by
                have hrr : r.head? = (nats s)[s.size - r.length]? := by rw [← List.head?_drop, i2]
                rw [hrr]
                by_cases hz : r.length = 0
                · rw [List.getElem?_eq_none (by rw [nats_length]; omega)]
                  simp only [reduceCtorEq, false_iff, Decidable.not_not]
                  exact .inr (.inl (by omega))
                · rw [bt_nats s _ (by omega)]
                  have := bt_nonneg s ((s.size - r.length : Nat) : Int)
                  simp only [Option.some.injEq]
                  omega
              by_cases hh : r.head? = some 43
              · rw [if_pos hh, if_neg (hr1.mp hh)]
                have hz : 0 < r.length := by cases r with
                  | nil => simp at hh
                  | cons => simp
                have ht : r.tail = (nats s).drop (s.size - r.length + 1) := by
                  rw [← List.tail_drop, i2]
                have ihq := ih (s.size - r.length + 1) (by omega) (by omega)
                have hp2 : (((s.size - r.length : Nat) : Int) + 1) = ((s.size - r.length + 1 : Nat) : Int) := by omega
                rw [hp2, ht]
                cases e2 : rdT k ((nats s).drop (s.size - r.length + 1)) with
                | none => rw [e2] at ihq; simp only at ihq; rw [if_pos (.inl ihq)]; rfl
                | some y =>
                  obtain ⟨u, q⟩ := y
                  rw [e2] at ihq
                  obtain ⟨j1, j2, j3⟩ := ihq
                  simp only [Option.bind_some]
                  rw [j3]
                  simp only
                  have hr2 : q.head? = some 41 ↔ ¬ (((s.size - q.length : Nat) : Int) = 0 ∨ (s.size : Int) ≤ ((s.size - q.length : Nat) : Int) ∨ bt s ((s.size - q.length : Nat) : Int) ≠ 41) := by
                    have hrr : q.head? = (nats s)[s.size - q.length]? := by rw [← List.head?_drop, j2]
                    rw [hrr]
                    by_cases hz : q.length = 0
                    · rw [List.getElem?_eq_none (by rw [nats_length]; omega)]
                      simp only [reduceCtorEq, false_iff, Decidable.not_not]
                      exact .inr (.inl (by omega))
                    · rw [bt_nats s _ (by omega)]
                      have := bt_nonneg s ((s.size - q.length : Nat) : Int)
                      simp only [Option.some.injEq]
                      omega
                  by_cases hg : q.head? = some 41
                  · rw [if_pos hg, if_neg (hr2.mp hg)]
                    have hz2 : 0 < q.length := by cases q with
                      | nil => simp at hg
                      | cons => simp
                    simp only [List.length_tail]
                    refine ⟨by omega, ?_, ?_⟩
                    · rw [show s.size - (q.length - 1) = s.size - q.length + 1 by omega, ← List.tail_drop, j2]
                    · simp only [toS, etaS, Prod.mk.injEq, true_and]; omega
                  · rw [if_neg hg, if_pos (Decidable.not_not.mp (fun h => hg (hr2.mpr h)))]
              · rw [if_neg hh, if_pos (Decidable.not_not.mp (fun h => hh (hr1.mpr h)))]
          · rw [if_neg h40, if_pos (show (c : Int) ≠ 40 by omega)]
    · have hd : (nats s).drop p = [] := List.drop_eq_nil_of_le (by rw [nats_length]; omega)
      rw [hd, spec_l10Read.g_succ, if_neg (by omega)]
      simp [rdT]
theorem cut_tells (c : Nat) (l : ByteArray) : (impl_takeTerm.cut c l).2 = decide ((nats l).head? = some c) ∧ ((impl_takeTerm.cut c l).2 = true → nats (impl_takeTerm.cut c l).1 = (nats l).tail) := by
  unfold impl_takeTerm.cut
  by_cases h : 0 < l.size
  · have h0 := bt_nats l 0 h
    have hb := bt_nonneg l 0
    rw [List.head?_eq_getElem?, h0]
    by_cases hc : bt l 0 = c
    · rw [if_pos ⟨h, hc⟩]
      refine ⟨?_, fun _ => nats_extract l⟩
      simp [hc]
    · rw [if_neg (fun hh => hc hh.2)]
      refine ⟨?_, fun hh => by simp at hh⟩
      simp
      have h1 : bt l ((0 : Nat) : Int) = bt l 0 := rfl
      omega
  · rw [if_neg (fun hh => h hh.1)]
    have : nats l = [] := List.eq_nil_of_length_eq_zero (by rw [nats_length]; omega)
    rw [this]
    exact ⟨by simp, fun hh => by simp at hh⟩
theorem impl_reads : ∀ (k : Nat) (s : ByteArray), s.size < k →
    match rdT k (nats s) with
    | none => (impl_takeTerm.g k s).2.2.2 = false
    | some (t, r) => ∃ l, nats l = r ∧ impl_takeTerm.g k s = ((toI t).f0, (toI t).f1, l, true) := by
  intro k
  induction k with
  | zero => intro s hk; omega
  | succ k ih =>
    intro s hk
    rw [impl_takeTerm.g_succ]
    by_cases h0 : s.size = 0
    · have hd : nats s = [] := List.eq_nil_of_length_eq_zero (by rw [nats_length]; exact h0)
      rw [hd, if_pos h0]
      simp [rdT]
    · have h1 : 0 < s.size := by omega
      have hd : nats s = (bt s 0).toNat :: nats (s.extract 1 s.size) := by
        rw [nats_extract]
        have := bt_nats s 0 h1
        rw [← List.head?_eq_getElem?] at this
        exact head_tail this
      have hx : (s.extract 1 s.size).size = s.size - 1 := by simp only [ByteArray.size_extract]; omega
      have hb := bt_nonneg s 0
      obtain ⟨c, hc⟩ : ∃ c : Nat, bt s 0 = c := ⟨(bt s 0).toNat, by omega⟩
      have ih1 := ih (s.extract 1 s.size) (by omega)
      rw [hd, if_neg h0, hc]
      generalize s.extract 1 s.size = s1 at ih1 hx
      have L1 : isLetter c ↔ ((c : Int) = 101 ∨ (c : Int) = 110 ∨ (c : Int) = 119 ∨ (c : Int) = 115) := by unfold isLetter; omega
      have S1 : isSign c ↔ ((c : Int) = 45 ∨ (c : Int) = 64 ∨ (50 ≤ (c : Int) ∧ (c : Int) ≤ 57)) := by unfold isSign; omega
      simp only [Int.toNat_natCast, rdT]
      by_cases hL : isLetter c
      · rw [if_pos hL, if_pos (L1.mp hL)]
        exact ⟨s1, rfl, rfl⟩
      · rw [if_neg hL, if_neg (fun h => hL (L1.mpr h))]
        by_cases hS : isSign c
        · rw [if_pos hS, if_pos (S1.mp hS)]
          cases e : rdT k (nats s1) with
          | none => rw [e] at ih1; simpa using ih1
          | some x =>
            obtain ⟨t, r⟩ := x
            rw [e] at ih1
            obtain ⟨l, i1, i2⟩ := ih1
            simp only [Option.bind_some]
            refine ⟨l, i1, ?_⟩
            rw [i2]
            simp only [toI, etaI]
        · rw [if_neg hS, if_neg (fun h => hS (S1.mpr h))]
          by_cases h40 : c = 40
          · rw [if_pos h40, if_neg (show ¬ ((c : Int) ≠ 40) by omega)]
            cases e : rdT k (nats s1) with
            | none => rw [e] at ih1; simp only at ih1; rw [if_pos (.inl ih1)]; rfl
            | some x =>
              obtain ⟨t, r⟩ := x
              rw [e] at ih1
              obtain ⟨l, i1, i2⟩ := ih1
              simp only [Option.bind_some]
              rw [i2]
              simp only [Bool.true_eq_false, false_or]
              obtain ⟨c1, c2⟩ := cut_tells 43 l
              rw [i1] at c1 c2
              have e43 : ((43 : Nat) : Int) = 43 := rfl
              rw [e43] at c1 c2
              by_cases hh : r.head? = some 43
              · have c3 : (impl_takeTerm.cut 43 l).2 = true := by rw [c1]; exact decide_eq_true hh
                have hl : (impl_takeTerm.cut 43 l).1.size < k := by
                  have hlen := congrArg List.length (c2 c3)
                  have hlt := rd_len e
                  rw [nats_length, List.length_tail] at hlen
                  rw [nats_length] at hlt
                  omega
                have ih2 := ih (impl_takeTerm.cut 43 l).1 hl
                rw [if_pos hh, if_neg (by rw [c3]; decide)]
                rw [c2 c3] at ih2
                cases e2 : rdT k r.tail with
                | none => rw [e2] at ih2; simp only at ih2; rw [ih2]; rfl
                | some y =>
                  obtain ⟨u, q⟩ := y
                  rw [e2] at ih2
                  obtain ⟨m, j1, j2⟩ := ih2
                  simp only [Option.bind_some]
                  rw [j2]
                  simp only [Bool.true_and]
                  obtain ⟨d1, d2⟩ := cut_tells 41 m
                  rw [j1] at d1 d2
                  have e41 : ((41 : Nat) : Int) = 41 := rfl
                  rw [e41] at d1 d2
                  by_cases hg : q.head? = some 41
                  · have d3 : (impl_takeTerm.cut 41 m).2 = true := by rw [d1]; exact decide_eq_true hg
                    rw [if_pos hg, d3]
                    exact ⟨_, d2 d3, by rw [h40]; simp only [toI, etaI]; rfl⟩
                  · rw [if_neg hg]
                    simp only
                    rw [d1]
                    exact decide_eq_false hg
              · rw [if_neg hh, if_pos (by rw [c1]; exact decide_eq_false hh)]
          · rw [if_neg h40, if_pos (show (c : Int) ≠ 40 by omega)]
/-- What the reference's reader of a whole text tells. -/
theorem spec_of (s : ByteArray) : if s.size ≤ 60 then
      match isTerm (nats s) with
      | none => ∃ a b, spec_l10Of.f s = some (a, b, false)
      | some t => spec_l10Of.f s = some ((toS t).f0, (toS t).f1, true)
    else ∃ a b, spec_l10Of.f s = some (a, b, false) := by
  unfold spec_l10Of.f
  by_cases hs : s.size ≤ 60
  · rw [if_pos hs, if_neg (by omega)]
    have h := spec_reads s (s.size + 1) 0 (by omega) (by omega)
    unfold isTerm
    rw [nats_length]
    simp only [List.drop_zero, Nat.sub_zero] at h
    unfold spec_l10Read.f
    rw [if_pos hs, if_pos (by omega)]
    simp only [Option.bind_some]
    have e0 : ((0 : Nat) : Int) = 0 := rfl
    rw [e0] at h
    cases e : rdT (s.size + 1) (nats s) with
    | none =>
      rw [e] at h
      simp only at h
      rw [h]
      simp
    | some x =>
      obtain ⟨t, r⟩ := x
      rw [e] at h
      obtain ⟨h1, h2, h3⟩ := h
      simp only [Option.bind_some]
      rw [h3]
      simp only
      rw [if_pos (show ((s.size - r.length : Nat) : Int) > 0 by omega)]
      by_cases hr : r = []
      · subst hr
        simp
      · have : 0 < r.length := List.length_pos_iff.mpr hr
        rw [if_neg hr]
        have hne : (((s.size - r.length : Nat) : Int) == (s.size : Int)) = false := by simp; omega
        rw [hne]
        exact ⟨_, _, rfl⟩
  · rw [if_neg hs, if_pos (by omega)]
    exact ⟨_, _, rfl⟩
/-- What the program's reader of a whole text tells. -/
theorem impl_of (s : ByteArray) : if s.size ≤ 60 then
      match isTerm (nats s) with
      | none => ∃ a b, impl_readTerm.f s = some (a, b, false)
      | some t => impl_readTerm.f s = some ((toI t).f0, (toI t).f1, true)
    else ∃ a b, impl_readTerm.f s = some (a, b, false) := by
  unfold impl_readTerm.f
  by_cases hs : s.size ≤ 60
  · rw [if_pos hs, if_neg (by omega)]
    have h := impl_reads (s.size + 1) s (by omega)
    unfold isTerm
    rw [nats_length]
    unfold impl_takeTerm.f
    rw [if_pos hs]
    simp only [Option.bind_some]
    cases e : rdT (s.size + 1) (nats s) with
    | none =>
      rw [e] at h
      simp only at h
      rw [h]
      simp
    | some x =>
      obtain ⟨t, r⟩ := x
      rw [e] at h
      obtain ⟨l, h1, h2⟩ := h
      simp only [Option.bind_some]
      rw [h2]
      simp only [if_true]
      by_cases hr : r = []
      · subst hr
        have : l.toList = [] := by
          rw [Lib.toList_data]
          exact List.map_eq_nil_iff.mp h1
        rw [this]
        simp
      · rw [if_neg hr]
        have : (l.toList == ([] : List UInt8)) = false := by
          rw [Lib.toList_data]
          simp
          intro hh
          exact hr (by rw [← h1]; unfold nats; rw [hh]; rfl)
        rw [this]
        exact ⟨_, _, rfl⟩
  · rw [if_neg hs, if_pos (by omega)]
    exact ⟨_, _, rfl⟩
/-! ### lengths -/
def T.len : T → Nat
  | .leaf _ => 1
  | .one c t => if 50 ≤ c ∧ c ≤ 57 then (c - 48) * t.len else t.len
  | .two a b => a.len + b.len
theorem T.len_pos : ∀ {t : T}, t.ok → 1 ≤ t.len
  | .leaf _, _ => Nat.le_refl _
  | .one c t, h => by
    have := T.len_pos h.2
    unfold T.len
    split
    · next hc => exact Nat.le_trans this (Nat.le_mul_of_pos_left _ (by omega))
    · exact this
  | .two a b, h => by
    have := T.len_pos h.1
    unfold T.len
    omega
theorem mn_is (m n : Nat) : mn (m : Int) (n : Int) = ((min m n : Nat) : Int) := by
  unfold mn
  split <;> omega
theorem T.text_two (a b : T) : (T.two a b).text.length = a.text.length + b.text.length + 3 := by simp [T.text]; omega
theorem spec_long : ∀ (t : T), t.ok → ∀ k, 2 * t.text.length ≤ k → spec_l10Long.f k (toS t).f0 (toS t).f1 = some ((min 1000 t.len : Nat) : Int) := by
  intro t
  induction t with
  | leaf c =>
    intro ho k hk
    simp only [T.text, List.length_cons, List.length_nil] at hk
    obtain ⟨m, rfl⟩ : ∃ m, k = m + 2 := ⟨k - 2, by omega⟩
    have ho : isLetter c := ho
    unfold isLetter at ho
    simp only [toS]
    rw [spec_l10Long.f]
    rw [if_neg (show ¬ ((c : Int) = 43) by omega), if_neg (show ¬ ((c : Int) = 45) by omega)]
    rw [spec_l10Long.j0, if_neg (by simp; omega)]
    split
    · rw [if_neg (show ¬ ((c : Int) ≤ 57) by omega)]; rfl
    · rfl
  | one c t ih =>
    intro ho k hk
    simp only [T.text, List.length_cons] at hk
    obtain ⟨m, rfl⟩ : ∃ m, k = m + 2 := ⟨k - 2, by omega⟩
    have hc : isSign c := ho.1
    unfold isSign at hc
    have hp := T.len_pos ho.2
    have hrec := ih ho.2 m (by omega)
    have hrec' := ih ho.2 (m + 1) (by omega)
    have h0 : (0 : Int) < (([toS t].length : Nat) : Int) := by simp
    have hg : rd_T34 [toS t] 0 = toS t := rfl
    simp only [toS]
    rw [spec_l10Long.f]
    rw [if_neg (show ¬ ((c : Int) = 43) by omega)]
    by_cases h45 : c = 45
    · rw [if_pos (show (c : Int) = 45 by omega)]
      rw [spec_l10Long.j0, if_pos rfl, if_pos h0, hg, hrec]
      simp only [Option.bind_some, T.len]
      rw [if_neg (by omega)]
    · rw [if_neg (show ¬ ((c : Int) = 45) by omega)]
      rw [spec_l10Long.j0]
      by_cases h64 : c = 64
      · rw [if_pos (by simp; omega), if_pos h0, hg, hrec]
        simp only [Option.bind_some, T.len, h64]
        rw [if_neg (by omega)]
      · rw [if_neg (by simp; omega), if_pos (show (c : Int) ≥ 50 by omega), if_pos (show (c : Int) ≤ 57 by omega), if_pos h0, hg, hrec]
        simp only [Option.bind_some, T.len]
        rw [if_pos (by omega)]
        obtain ⟨d, rfl⟩ : ∃ d, c = d + 48 := ⟨c - 48, by omega⟩
        have hd : (((d + 48 : Nat) : Int) - 48) % 256 = (d : Int) := by omega
        rw [hd, Nat.add_sub_cancel]
        have hm : (d : Int) * ((min 1000 t.len : Nat) : Int) = ((d * min 1000 t.len : Nat) : Int) := by push_cast; rfl
        rw [hm]
        have hbd : d * min 1000 t.len ≤ 9 * 1000 := Nat.mul_le_mul (by omega) (Nat.min_le_left _ _)
        have hw : wrap64 ((d * min 1000 t.len : Nat) : Int) = ((d * min 1000 t.len : Nat) : Int) := by unfold wrap64; omega
        rw [hw]
        have := mn_is 1000 (d * min 1000 t.len)
        have e1000 : ((1000 : Nat) : Int) = 1000 := rfl
        rw [e1000] at this
        rw [this]
        refine congrArg (fun n : Nat => some (n : Int)) ?_
        rcases Nat.le_total t.len 1000 with h | h
        · rw [Nat.min_eq_right h]
        · rw [Nat.min_eq_left h]
          have h2 : 2 * 1000 ≤ d * 1000 := Nat.mul_le_mul_right _ (by omega)
          have h3 : d * 1000 ≤ d * t.len := Nat.mul_le_mul_left _ h
          omega
  | two a b iha ihb =>
    intro ho k hk
    rw [T.text_two] at hk
    obtain ⟨m, rfl⟩ : ∃ m, k = m + 2 := ⟨k - 2, by omega⟩
    simp only [toS]
    rw [spec_l10Long.f, if_pos rfl]
    have hg : rd_T34 [toS a, toS b] 0 = toS a := rfl
    have hh : rd_T34 [toS a, toS b] 1 = toS b := rfl
    rw [if_pos (by simp), hg, iha ho.1 (m + 1) (by omega)]
    simp only [Option.bind_some]
    rw [if_pos (by simp), hh, ihb ho.2 (m + 1) (by omega)]
    simp only [Option.bind_some, T.len]
    have hw : wrap64 (((min 1000 a.len : Nat) : Int) + ((min 1000 b.len : Nat) : Int)) = ((min 1000 a.len + min 1000 b.len : Nat) : Int) := by unfold wrap64; omega
    rw [hw]
    have := mn_is 1000 (min 1000 a.len + min 1000 b.len)
    have e1000 : ((1000 : Nat) : Int) = 1000 := rfl
    rw [e1000] at this
    rw [this]
    refine congrArg (fun n : Nat => some (n : Int)) ?_
    omega
theorem impl_long : ∀ (t : T), t.ok → ∀ k, 2 * t.text.length ≤ k → impl_term_length.f k (toI t).f0 (toI t).f1 = some ((min 201 t.len : Nat) : Int) := by
  intro t
  induction t with
  | leaf c =>
    intro ho k hk
    simp only [T.text, List.length_cons, List.length_nil] at hk
    obtain ⟨m, rfl⟩ : ∃ m, k = m + 2 := ⟨k - 2, by omega⟩
    simp only [toI]
    rw [impl_term_length.f]
    rw [if_pos (by simp)]
    rfl
  | one c t ih =>
    intro ho k hk
    simp only [T.text, List.length_cons] at hk
    obtain ⟨m, rfl⟩ : ∃ m, k = m + 2 := ⟨k - 2, by omega⟩
    have hc : isSign c := ho.1
    unfold isSign at hc
    have hp := T.len_pos ho.2
    have hrec := ih ho.2 m (by omega)
    have h0 : (0 : Int) < (([toI t].length : Nat) : Int) := by simp
    have hg : rd_T39 [toI t] 0 = toI t := rfl
    simp only [toI]
    rw [impl_term_length.f]
    rw [if_neg (show ¬ ((([toI t].length : Nat) : Int) = 0) by simp), if_neg (show ¬ ((([toI t].length : Nat) : Int) = 2) by simp)]
    by_cases h64 : 50 ≤ c ∧ c ≤ 57
    · rw [if_pos (show (c : Int) ≥ 50 by omega)]
      rw [impl_term_length.j0, if_pos (decide_eq_true (show (c : Int) ≤ 57 by omega)), if_pos h0, hg, hrec]
      simp only [Option.bind_some, T.len]
      rw [if_pos (by omega)]
      obtain ⟨d, rfl⟩ : ∃ d, c = d + 48 := ⟨c - 48, by omega⟩
      have hd : (((d + 48 : Nat) : Int) - 48) % 256 = (d : Int) := by omega
      rw [hd, Nat.add_sub_cancel]
      have hm : (d : Int) * ((min 201 t.len : Nat) : Int) = ((d * min 201 t.len : Nat) : Int) := by push_cast; rfl
      rw [hm]
      have hbd : d * min 201 t.len ≤ 9 * 201 := Nat.mul_le_mul (by omega) (Nat.min_le_left _ _)
      have hw : wrap64 ((d * min 201 t.len : Nat) : Int) = ((d * min 201 t.len : Nat) : Int) := by unfold wrap64; omega
      rw [hw]
      have := mn_is 201 (d * min 201 t.len)
      have e201 : ((201 : Nat) : Int) = 201 := rfl
      rw [e201] at this
      rw [this]
      refine congrArg (fun n : Nat => some (n : Int)) ?_
      rcases Nat.le_total t.len 201 with h | h
      · rw [Nat.min_eq_right h]
      · rw [Nat.min_eq_left h]
        have h2 : 2 * 201 ≤ d * 201 := Nat.mul_le_mul_right _ (by omega)
        have h3 : d * 201 ≤ d * t.len := Nat.mul_le_mul_left _ h
        omega
    · have hlen : (T.one c t).len = t.len := if_neg h64
      have hj : ∀ b, b = false → impl_term_length.j0 (m + 1) b (c : Int) [toI t] = some ((min 201 t.len : Nat) : Int) := by
        intro b hb
        subst hb
        rw [impl_term_length.j0, if_neg (by decide), if_pos h0, hg, hrec]
        rfl
      rw [hlen]
      split
      · exact hj _ (decide_eq_false (by omega))
      · exact hj _ rfl
  | two a b iha ihb =>
    intro ho k hk
    rw [T.text_two] at hk
    obtain ⟨m, rfl⟩ : ∃ m, k = m + 2 := ⟨k - 2, by omega⟩
    simp only [toI]
    rw [impl_term_length.f]
    have hg : rd_T39 [toI a, toI b] 0 = toI a := rfl
    have hh : rd_T39 [toI a, toI b] 1 = toI b := rfl
    rw [if_neg (by simp), if_pos (by simp), if_pos (by simp), hg, iha ho.1 (m + 1) (by omega)]
    simp only [Option.bind_some]
    rw [if_pos (by simp), hh, ihb ho.2 (m + 1) (by omega)]
    simp only [Option.bind_some, T.len]
    have hw : wrap64 (((min 201 a.len : Nat) : Int) + ((min 201 b.len : Nat) : Int)) = ((min 201 a.len + min 201 b.len : Nat) : Int) := by unfold wrap64; omega
    rw [hw]
    have := mn_is 201 (min 201 a.len + min 201 b.len)
    have e201 : ((201 : Nat) : Int) = 201 := rfl
    rw [e201] at this
    rw [this]
    refine congrArg (fun n : Nat => some (n : Int)) ?_
    omega
/-- The term that a text is, if its walk has at most 200 letters. -/
def short (s : ByteArray) : Option T := if s.size ≤ 60 then (isTerm (nats s)).bind fun t => if t.len ≤ 200 then some t else none else none
theorem text_size {s : ByteArray} {t : T} (h : isTerm (nats s) = some t) : t.ok ∧ t.text.length = s.size := by
  obtain ⟨h1, h2⟩ := isTerm_some.mp h
  exact ⟨h1, by rw [← h2, nats_length]⟩
theorem short_some {s : ByteArray} {t : T} (h : short s = some t) : t.ok ∧ t.len ≤ 200 ∧ nats s = t.text ∧ s.size ≤ 60 ∧ t.text.length ≤ 60 := by
  unfold short at h
  split at h
  · next hs =>
    obtain ⟨u, h1, h2⟩ := Option.bind_eq_some_iff.mp h
    split at h2
    · next hl =>
      injection h2 with h2
      subst h2
      have := text_size h1
      exact ⟨this.1, hl, (isTerm_some.mp h1).2, hs, by omega⟩
    · simp at h2
  · simp at h
theorem spec_short (s : ByteArray) (k : Nat) (hk : 120 ≤ k) : match short s with
    | none => ∃ a b, spec_l10Short.f k s = some (a, b, false)
    | some t => spec_l10Short.f k s = some ((toS t).f0, (toS t).f1, true) := by
  have h := spec_of s
  unfold spec_l10Short.f short
  by_cases hs : s.size ≤ 60
  · rw [if_pos hs] at h ⊢
    cases e : isTerm (nats s) with
    | none =>
      rw [e] at h
      obtain ⟨a, b, h⟩ := h
      rw [h]
      simp
    | some t =>
      rw [e] at h
      simp only at h
      obtain ⟨ho, hl⟩ := text_size e
      rw [h]
      simp only [Option.bind_some, if_true]
      rw [spec_long t ho k (by omega)]
      simp only [Option.bind_some]
      by_cases hl : t.len ≤ 200
      · rw [if_pos hl]
        simp only
        rw [decide_eq_true (by omega)]
      · rw [if_neg hl]
        simp only
        rw [decide_eq_false (by omega)]
        exact ⟨_, _, rfl⟩
  · rw [if_neg hs] at h ⊢
    obtain ⟨a, b, h⟩ := h
    rw [h]
    simp
theorem impl_short (s : ByteArray) (k : Nat) (hk : 120 ≤ k) : match short s with
    | none => ∃ a b, impl_walkable.f k s = some (a, b, false)
    | some t => impl_walkable.f k s = some ((toI t).f0, (toI t).f1, true) := by
  have h := impl_of s
  unfold impl_walkable.f short
  by_cases hs : s.size ≤ 60
  · rw [if_pos hs] at h ⊢
    cases e : isTerm (nats s) with
    | none =>
      rw [e] at h
      obtain ⟨a, b, h⟩ := h
      rw [h]
      simp
    | some t =>
      rw [e] at h
      simp only at h
      obtain ⟨ho, hl⟩ := text_size e
      rw [h]
      simp only [Option.bind_some, if_true]
      rw [impl_long t ho k (by omega)]
      simp only [Option.bind_some]
      by_cases hl : t.len ≤ 200
      · rw [if_pos hl]
        simp only
        rw [decide_eq_true (by omega)]
      · rw [if_neg hl]
        simp only
        rw [decide_eq_false (by omega)]
        exact ⟨_, _, rfl⟩
  · rw [if_neg hs] at h ⊢
    obtain ⟨a, b, h⟩ := h
    rw [h]
    simp
/-! ### ends and areas -/
def T.ends : T → Int × Int × Int
  | .leaf c => if c = 101 then (1, 0, 0) else if c = 110 then (0, 1, 0) else if c = 119 then (-1, 0, 0) else (0, -1, 0)
  | .one c t =>
    if c = 45 then (-t.ends.1, -t.ends.2.1, -t.ends.2.2)
    else if c = 64 then (-t.ends.2.1, t.ends.1, t.ends.2.2)
    else (((c : Int) - 48) * t.ends.1, ((c : Int) - 48) * t.ends.2.1, ((c : Int) - 48) * t.ends.2.2)
  | .two a b => (a.ends.1 + b.ends.1, a.ends.2.1 + b.ends.2.1, a.ends.2.2 + b.ends.2.2 + a.ends.1 * b.ends.2.1 - a.ends.2.1 * b.ends.1)
def inB (x : Int) (n : Nat) : Prop := -(n : Int) ≤ x ∧ x ≤ n
theorem inB_mul {x y : Int} {m n : Nat} (hx : inB x m) (hy : inB y n) : inB (x * y) (m * n) := by
  unfold inB at *
  have h1 : (x * y).natAbs ≤ m * n := by
    rw [Int.natAbs_mul]
    exact Nat.mul_le_mul (by omega) (by omega)
  have h2 : ((x * y).natAbs : Int) ≤ ((m * n : Nat) : Int) := by omega
  omega
theorem T.ends_in : ∀ (t : T), t.ok → inB t.ends.1 t.len ∧ inB t.ends.2.1 t.len ∧ inB t.ends.2.2 (t.len * t.len)
  | .leaf c, h => by
    unfold T.ends T.len inB
    split
    · simp only; omega
    · split
      · simp only; omega
      · split <;> (simp only; omega)
  | .one c t, h => by
    obtain ⟨h1, h2, h3⟩ := T.ends_in t h.2
    have hc := h.1
    unfold isSign at hc
    unfold T.ends T.len
    by_cases c1 : c = 45
    · rw [if_pos c1, if_neg (by omega)]
      unfold inB at *
      simp only
      omega
    · rw [if_neg c1]
      by_cases c2 : c = 64
      · rw [if_pos c2, if_neg (by omega)]
        unfold inB at *
        simp only
        omega
      · rw [if_neg c2, if_pos (by omega)]
        have hd : inB ((c : Int) - 48) (c - 48) := by unfold inB; omega
        refine ⟨inB_mul hd h1, inB_mul hd h2, ?_⟩
        have h4 := inB_mul hd h3
        have h5 : (c - 48) * (t.len * t.len) ≤ (c - 48) * t.len * ((c - 48) * t.len) := by
          rw [Nat.mul_assoc]
          refine Nat.mul_le_mul_left _ ?_
          refine Nat.mul_le_mul_left t.len ?_
          exact Nat.le_mul_of_pos_left _ (by omega)
        unfold inB at *
        simp only at h4 ⊢
        omega
  | .two a b, h => by
    obtain ⟨a1, a2, a3⟩ := T.ends_in a h.1
    obtain ⟨b1, b2, b3⟩ := T.ends_in b h.2
    have p1 := inB_mul a1 b2
    have p2 := inB_mul a2 b1
    have e : (a.len + b.len) * (a.len + b.len) = a.len * a.len + a.len * b.len + (a.len * b.len + b.len * b.len) := by
      rw [Nat.add_mul, Nat.mul_add, Nat.mul_add, Nat.mul_comm b.len a.len]
    unfold T.ends T.len
    rw [e]
    unfold inB at *
    simp only
    omega
theorem T.sub_len {c : Nat} {t : T} (h : isSign c) : t.len ≤ (T.one c t).len := by
  unfold isSign at h
  show t.len ≤ if 50 ≤ c ∧ c ≤ 57 then (c - 48) * t.len else t.len
  split
  · exact Nat.le_mul_of_pos_left _ (by omega)
  · exact Nat.le_refl _
theorem sq_le {m : Nat} (h : m ≤ 200) : m * m ≤ 40000 := Nat.mul_le_mul h h
/-- Nothing wraps where the walk has at most 200 letters. -/
theorem T.ends_small {t : T} (ho : t.ok) (hl : t.len ≤ 200) : inB t.ends.1 200 ∧ inB t.ends.2.1 200 ∧ inB t.ends.2.2 40000 := by
  obtain ⟨h1, h2, h3⟩ := T.ends_in t ho
  have := sq_le hl
  unfold inB at *
  omega
theorem wrap_idE {x : Int} (h0 : -9223372036854775808 ≤ x) (h1 : x ≤ 9223372036854775807) : wrap64 x = x := by unfold wrap64; omega
theorem spec_ends : ∀ (t : T), t.ok → t.len ≤ 200 → ∀ k, t.text.length ≤ k → spec_l10Ends.f k (toS t).f0 (toS t).f1 = some t.ends := by
  intro t
  induction t with
  | leaf c =>
    intro ho hl k hk
    simp only [T.text, List.length_cons, List.length_nil] at hk
    obtain ⟨m, rfl⟩ : ∃ m, k = m + 1 := ⟨k - 1, by omega⟩
    have ho : isLetter c := ho
    unfold isLetter at ho
    simp only [toS]
    rw [spec_l10Ends.f]
    unfold T.ends
    rcases ho with rfl | rfl | rfl | rfl <;> rfl
  | one c t ih =>
    intro ho hl k hk
    simp only [T.text, List.length_cons] at hk
    obtain ⟨m, rfl⟩ : ∃ m, k = m + 1 := ⟨k - 1, by omega⟩
    have hc : isSign c := ho.1
    have hs := T.sub_len (t := t) hc
    obtain ⟨b1, b2, b3⟩ := T.ends_small ho.2 (by omega)
    obtain ⟨d1, d2, d3⟩ := T.ends_small (t := T.one c t) ho hl
    unfold isSign at hc
    have hrec := ih ho.2 (by omega) m (by omega)
    have hg : rd_T34 [toS t] 0 = toS t := rfl
    unfold inB at *
    simp only [toS]
    rw [spec_l10Ends.f, if_neg (show ¬ ((c : Int) = 110) by omega), if_neg (show ¬ ((c : Int) = 101) by omega), if_neg (show ¬ ((c : Int) = 115) by omega), if_neg (show ¬ ((c : Int) = 119) by omega), if_pos (show (0 : Int) < (([toS t].length : Nat) : Int) by simp), hg, hrec]
    simp only [Option.bind_some]
    by_cases c1 : c = 45
    · rw [if_pos (show (c : Int) = 45 by omega), wrap_idE (by omega) (by omega), wrap_idE (by omega) (by omega), wrap_idE (by omega) (by omega)]
      conv => rhs; unfold T.ends
      rw [if_pos c1]
    · rw [if_neg (show ¬ ((c : Int) = 45) by omega)]
      by_cases c2 : c = 64
      · rw [if_pos (show (c : Int) = 64 by omega), wrap_idE (by omega) (by omega)]
        conv => rhs; unfold T.ends
        rw [if_neg c1, if_pos c2]
      · rw [if_neg (show ¬ ((c : Int) = 64) by omega), if_neg (show ¬ ((c : Int) = 43) by omega)]
        have e : (T.one c t).ends = (((c : Int) - 48) * t.ends.1, ((c : Int) - 48) * t.ends.2.1, ((c : Int) - 48) * t.ends.2.2) := by
          conv => lhs; unfold T.ends
          rw [if_neg c1, if_neg c2]
        rw [e] at d1 d2 d3 ⊢
        simp only at d1 d2 d3
        have hm : ((c : Int) - 48) % 256 = (c : Int) - 48 := by omega
        rw [hm, wrap_idE (by omega) (by omega), wrap_idE (by omega) (by omega), wrap_idE (by omega) (by omega)]
  | two a b iha ihb =>
    intro ho hl k hk
    rw [T.text_two] at hk
    obtain ⟨m, rfl⟩ : ∃ m, k = m + 1 := ⟨k - 1, by omega⟩
    have hlen : a.len + b.len ≤ 200 := hl
    obtain ⟨a1, a2, a3⟩ := T.ends_small ho.1 (by omega)
    obtain ⟨b1, b2, b3⟩ := T.ends_small ho.2 (by omega)
    have p1 := inB_mul a1 b2
    have p2 := inB_mul a2 b1
    have hg : rd_T34 [toS a, toS b] 0 = toS a := rfl
    have hh : rd_T34 [toS a, toS b] 1 = toS b := rfl
    unfold inB at *
    simp only [toS]
    rw [spec_l10Ends.f, if_neg (by decide), if_neg (by decide), if_neg (by decide), if_neg (by decide), if_pos (show (0 : Int) < (([toS a, toS b].length : Nat) : Int) by simp), hg, iha ho.1 (by omega) m (by omega)]
    simp only [Option.bind_some]
    rw [if_neg (by decide), if_neg (by decide), if_pos trivial, if_pos (show (1 : Int) < (([toS a, toS b].length : Nat) : Int) by simp), hh, ihb ho.2 (by omega) m (by omega)]
    simp only [Option.bind_some]
    have e : (T.two a b).ends = (a.ends.1 + b.ends.1, a.ends.2.1 + b.ends.2.1, a.ends.2.2 + b.ends.2.2 + a.ends.1 * b.ends.2.1 - a.ends.2.1 * b.ends.1) := rfl
    rw [e]
    generalize a.ends.1 * b.ends.2.1 = m1 at p1
    generalize a.ends.2.1 * b.ends.1 = m2 at p2
    rw [wrap_idE (x := a.ends.1 + b.ends.1) (by omega) (by omega), wrap_idE (x := a.ends.2.1 + b.ends.2.1) (by omega) (by omega), wrap_idE (x := a.ends.2.2 + b.ends.2.2) (by omega) (by omega), wrap_idE (x := m1) (by omega) (by omega), wrap_idE (x := m2) (by omega) (by omega),
      wrap_idE (x := a.ends.2.2 + b.ends.2.2 + m1) (by omega) (by omega), wrap_idE (x := a.ends.2.2 + b.ends.2.2 + m1 - m2) (by omega) (by omega)]
theorem impl_ends : ∀ (t : T), t.ok → t.len ≤ 200 → ∀ k, t.text.length ≤ k → impl_term_measure.f k (toI t).f0 (toI t).f1 = some t.ends := by
  intro t
  induction t with
  | leaf c =>
    intro ho hl k hk
    simp only [T.text, List.length_cons, List.length_nil] at hk
    obtain ⟨m, rfl⟩ : ∃ m, k = m + 1 := ⟨k - 1, by omega⟩
    have ho : isLetter c := ho
    unfold isLetter at ho
    simp only [toI]
    rw [impl_term_measure.f]
    unfold T.ends
    rcases ho with rfl | rfl | rfl | rfl <;> rfl
  | one c t ih =>
    intro ho hl k hk
    simp only [T.text, List.length_cons] at hk
    obtain ⟨m, rfl⟩ : ∃ m, k = m + 1 := ⟨k - 1, by omega⟩
    have hc : isSign c := ho.1
    have hs := T.sub_len (t := t) hc
    obtain ⟨b1, b2, b3⟩ := T.ends_small ho.2 (by omega)
    obtain ⟨d1, d2, d3⟩ := T.ends_small (t := T.one c t) ho hl
    unfold isSign at hc
    have hrec := ih ho.2 (by omega) m (by omega)
    have hg : rd_T39 [toI t] 0 = toI t := rfl
    unfold inB at *
    simp only [toI]
    rw [impl_term_measure.f, if_neg (show ¬ ((([toI t].length : Nat) : Int) = 0) by simp), hg, hrec]
    simp only [Option.bind_some]
    by_cases c2 : c = 64
    · rw [if_pos (show (c : Int) = 64 by omega), wrap_idE (by omega) (by omega)]
      conv => rhs; unfold T.ends
      rw [if_neg (show ¬ c = 45 by omega), if_pos c2]
    · rw [if_neg (show ¬ ((c : Int) = 64) by omega)]
      by_cases c1 : c = 45
      · rw [if_pos (show (c : Int) = 45 by omega), wrap_idE (by omega) (by omega), wrap_idE (by omega) (by omega), wrap_idE (by omega) (by omega)]
        conv => rhs; unfold T.ends
        rw [if_pos c1]
      · rw [if_neg (show ¬ ((c : Int) = 45) by omega), if_neg (show ¬ ((c : Int) = 40) by omega)]
        have e : (T.one c t).ends = (((c : Int) - 48) * t.ends.1, ((c : Int) - 48) * t.ends.2.1, ((c : Int) - 48) * t.ends.2.2) := by
          conv => lhs; unfold T.ends
          rw [if_neg c1, if_neg c2]
        rw [e] at d1 d2 d3 ⊢
        simp only at d1 d2 d3
        have hm : ((c : Int) - 48) % 256 = (c : Int) - 48 := by omega
        rw [hm, wrap_idE (by omega) (by omega), wrap_idE (by omega) (by omega), wrap_idE (by omega) (by omega)]
  | two a b iha ihb =>
    intro ho hl k hk
    rw [T.text_two] at hk
    obtain ⟨m, rfl⟩ : ∃ m, k = m + 1 := ⟨k - 1, by omega⟩
    have hlen : a.len + b.len ≤ 200 := hl
    obtain ⟨a1, a2, a3⟩ := T.ends_small ho.1 (by omega)
    obtain ⟨b1, b2, b3⟩ := T.ends_small ho.2 (by omega)
    have p1 := inB_mul a1 b2
    have p2 := inB_mul a2 b1
    have hg : rd_T39 [toI a, toI b] 0 = toI a := rfl
    have hh : rd_T39 [toI a, toI b] 1 = toI b := rfl
    unfold inB at *
    simp only [toI]
    rw [impl_term_measure.f, if_neg (show ¬ ((([toI a, toI b].length : Nat) : Int) = 0) by simp), hg, iha ho.1 (by omega) m (by omega)]
    simp only [Option.bind_some]
    rw [if_neg (by decide), if_neg (by decide), if_pos trivial, if_pos (show (1 : Int) < (([toI a, toI b].length : Nat) : Int) by simp), hh, ihb ho.2 (by omega) m (by omega)]
    simp only [Option.bind_some]
    have e : (T.two a b).ends = (a.ends.1 + b.ends.1, a.ends.2.1 + b.ends.2.1, a.ends.2.2 + b.ends.2.2 + a.ends.1 * b.ends.2.1 - a.ends.2.1 * b.ends.1) := rfl
    rw [e]
    generalize a.ends.1 * b.ends.2.1 = m1 at p1
    generalize a.ends.2.1 * b.ends.1 = m2 at p2
    rw [wrap_idE (x := a.ends.1 + b.ends.1) (by omega) (by omega), wrap_idE (x := a.ends.2.1 + b.ends.2.1) (by omega) (by omega), wrap_idE (x := a.ends.2.2 + b.ends.2.2) (by omega) (by omega), wrap_idE (x := m1) (by omega) (by omega), wrap_idE (x := m2) (by omega) (by omega),
      wrap_idE (x := a.ends.2.2 + b.ends.2.2 + m1) (by omega) (by omega), wrap_idE (x := a.ends.2.2 + b.ends.2.2 + m1 - m2) (by omega) (by omega)]
theorem end_spec (s : ByteArray) (k : Nat) (hk : 120 ≤ k) : spec_TermEnd.f k s = some (match short s with | none => (0, 0, false) | some t => (t.ends.1, t.ends.2.1, true)) := by
  have h1 := spec_short s k hk
  unfold spec_TermEnd.f
  cases e : short s with
  | none =>
    rw [e] at h1
    obtain ⟨a, b, h1⟩ := h1
    rw [h1]
    rfl
  | some t =>
    rw [e] at h1
    simp only at h1
    obtain ⟨ho, hl, _, _, hx⟩ := short_some e
    rw [h1]
    simp only [Option.bind_some, if_true]
    rw [spec_ends t ho hl k (by omega)]
    rfl
theorem end_impl (s : ByteArray) (k : Nat) (hk : 120 ≤ k) : impl_TermEnd.f k s = some (match short s with | none => (0, 0, false) | some t => (t.ends.1, t.ends.2.1, true)) := by
  have h1 := impl_short s k hk
  unfold impl_TermEnd.f
  cases e : short s with
  | none =>
    rw [e] at h1
    obtain ⟨a, b, h1⟩ := h1
    rw [h1]
    rfl
  | some t =>
    rw [e] at h1
    simp only at h1
    obtain ⟨ho, hl, _, _, hx⟩ := short_some e
    rw [h1]
    simp only [Option.bind_some, if_true]
    rw [impl_ends t ho hl k (by omega)]
    rfl
theorem FnExactTermEnd : laws_FnExactTermEnd.Pure := by
  intro s hs
  refine ⟨120, ?_⟩
  unfold laws_FnExactTermEnd.f
  rw [end_spec s 120 (by omega), end_impl s 120 (by omega)]
  simp

end Go.Proofs.Ytdimlajglamomaa.Pure
