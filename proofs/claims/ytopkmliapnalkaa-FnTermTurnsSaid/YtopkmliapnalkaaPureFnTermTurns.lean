/- The law FnTermTurns, as a statement over plain numbers and lists, is proved: what the program's functions compute is what the reference's compute. -/
import Derived.Test.YtopkmliapnalkaaPFnTermTurnsx10
import Derived.Laws.Entries
namespace Go.Proofs.Ytopkmliapnalkaa.Pure
open Go.RowKit Go.Proofs.Ytopkmliapnalkaa.PFnTermTurns Go.Proofs.YtopkmliapnalkaaW.PrintWords Go.Proofs.YtopkmliapnalkaaW.PrintLast
set_option linter.unusedVariables false
set_option linter.unusedSimpArgs false
/-! ### terms, as plain trees -/
inductive T where
  | leaf (c : Nat)
  | one (c : Nat) (t : T)
  | two (a b : T)
def isLetter (c : Nat) : Prop := c = 101 ∨ c = 110 ∨ c = 119 ∨ c = 115
instance (c : Nat) : Decidable (isLetter c) := by unfold isLetter; infer_instance
def isSign (c : Nat) : Prop := c = 45 ∨ c = 64 ∨ (50 ≤ c ∧ c ≤ 57)
instance (c : Nat) : Decidable (isSign c) := by unfold isSign; infer_instance
theorem letter_sign {c : Nat} (h : isLetter c) : ¬ isSign c := by unfold isLetter at h; unfold isSign; omega
def T.ok : T → Prop
  | .leaf c => isLetter c
  | .one c t => isSign c ∧ t.ok
  | .two a b => a.ok ∧ b.ok
/-- The text of a term. -/
def T.text : T → List Nat
  | .leaf c => [c]
  | .one c t => c :: t.text
  | .two a b => 40 :: (a.text ++ 43 :: (b.text ++ [41]))
/-- Reads a term. -/
def rdT : Nat → List Nat → Option (T × List Nat)
  | 0, _ => none
  | _ + 1, [] => none
  | k + 1, c :: l =>
    if isLetter c then some (.leaf c, l)
    else if isSign c then (rdT k l).bind fun p => some (.one c p.1, p.2)
    else if c = 40 then
      (rdT k l).bind fun p =>
        if p.2.head? = some 43 then
          (rdT k p.2.tail).bind fun q => if q.2.head? = some 41 then some (.two p.1 q.1, q.2.tail) else none
        else none
    else none
theorem T.text_pos (t : T) : 0 < t.text.length := by cases t <;> simp [T.text]
theorem T.text_two (a b : T) : (T.two a b).text.length = a.text.length + b.text.length + 3 := by simp [T.text]; omega
theorem head_tail {l : List Nat} {c : Nat} (h : l.head? = some c) : l = c :: l.tail := by
  cases l with
  | nil => simp at h
  | cons x r => simp at h; rw [h]; rfl
theorem rd_sound : ∀ (k : Nat) (l : List Nat) (t : T) (r : List Nat), rdT k l = some (t, r) → t.ok ∧ l = t.text ++ r := by
  intro k
  induction k with
  | zero => intro l t r h; simp [rdT] at h
  | succ k ih =>
    intro l t r h
    cases l with
    | nil => simp [rdT] at h
    | cons c l =>
      simp only [rdT] at h
      split at h
      · next hc => simp only [Option.some.injEq, Prod.mk.injEq] at h; obtain ⟨rfl, rfl⟩ := h; exact ⟨hc, rfl⟩
      · split at h
        · next hc =>
          obtain ⟨⟨t1, r1⟩, h1, h2⟩ := Option.bind_eq_some_iff.mp h
          simp only [Option.some.injEq, Prod.mk.injEq] at h2
          obtain ⟨rfl, rfl⟩ := h2
          have := ih _ _ _ h1
          exact ⟨⟨hc, this.1⟩, by rw [this.2]; rfl⟩
        · split at h
          · next hc =>
            obtain ⟨⟨t1, r1⟩, h1, h2⟩ := Option.bind_eq_some_iff.mp h
            split at h2
            · next hp =>
              obtain ⟨⟨t2, r2⟩, h3, h4⟩ := Option.bind_eq_some_iff.mp h2
              split at h4
              · next hq =>
                simp only [Option.some.injEq, Prod.mk.injEq] at h4
                obtain ⟨rfl, rfl⟩ := h4
                have i1 := ih _ _ _ h1
                have i2 := ih _ _ _ h3
                have e1 := head_tail hp
                have e2 := head_tail hq
                refine ⟨⟨i1.1, i2.1⟩, ?_⟩
                simp only at e1 e2 i1 i2
                rw [hc, i1.2, e1, i2.2, e2]
                simp [T.text]
              · simp at h4
            · simp at h2
          · simp at h
theorem rd_full : ∀ (t : T) (k : Nat) (r : List Nat), t.ok → t.text.length < k → rdT k (t.text ++ r) = some (t, r) := by
  intro t
  induction t with
  | leaf c =>
    intro k r ho hk
    obtain ⟨k, rfl⟩ : ∃ m, k = m + 1 := ⟨k - 1, by omega⟩
    simp only [T.text, List.cons_append, List.nil_append, rdT]
    rw [if_pos (show isLetter c from ho)]
  | one c t ih =>
    intro k r ho hk
    obtain ⟨k, rfl⟩ : ∃ m, k = m + 1 := ⟨k - 1, by omega⟩
    simp only [T.text, List.length_cons] at hk
    simp only [T.text, List.cons_append, rdT]
    rw [if_neg (fun h => letter_sign h ho.1), if_pos ho.1, ih k r ho.2 (by omega)]
    rfl
  | two a b iha ihb =>
    intro k r ho hk
    obtain ⟨k, rfl⟩ : ∃ m, k = m + 1 := ⟨k - 1, by omega⟩
    simp only [T.text, List.length_cons, List.length_append, List.length_nil] at hk
    simp only [T.text, List.cons_append, List.append_assoc, List.nil_append, rdT]
    rw [if_neg (show ¬ isLetter 40 by decide), if_neg (show ¬ isSign 40 by decide)]
    simp only [if_true]
    rw [iha k _ ho.1 (by omega)]
    simp only [Option.bind_some, List.head?_cons, if_true, List.tail_cons]
    rw [ihb k _ ho.2 (by omega)]
    simp
/-- A term at the head of a text is there whatever the rounds. -/
theorem rd_rounds {k k' : Nat} {l : List Nat} (h : l.length < k) (h' : l.length < k') : rdT k l = rdT k' l := by
  have key : ∀ k k', l.length < k → l.length < k' → ∀ x, rdT k l = some x → rdT k' l = some x := by
    intro k k' h h' x hx
    obtain ⟨ho, hl⟩ := rd_sound k l x.1 x.2 hx
    rw [hl]
    refine rd_full _ _ _ ho ?_
    have := congrArg List.length hl
    simp at this
    omega
  cases e : rdT k l with
  | some x => exact (key k k' h h' x e).symm
  | none =>
    cases e' : rdT k' l with
    | none => rfl
    | some x => have := key k' k h' h x e'; rw [e] at this; simp at this
theorem rd_len {k : Nat} {l : List Nat} {t : T} {r : List Nat} (h : rdT k l = some (t, r)) : r.length < l.length := by
  have := rd_sound k l t r h
  have hp := t.text_pos
  rw [this.2]
  simp
  omega
/-- A text is a term. -/
def isTerm (l : List Nat) : Option T := (rdT (l.length + 1) l).bind fun p => if p.2 = [] then some p.1 else none
theorem isTerm_text {t : T} (h : t.ok) : isTerm t.text = some t := by
  unfold isTerm
  have := rd_full t (t.text.length + 1) [] h (by omega)
  rw [List.append_nil] at this
  rw [this]
  rfl
theorem isTerm_some {l : List Nat} {t : T} : isTerm l = some t ↔ t.ok ∧ l = t.text := by
  constructor
  · intro h
    unfold isTerm at h
    obtain ⟨⟨t1, r1⟩, h1, h2⟩ := Option.bind_eq_some_iff.mp h
    split at h2
    · next hr =>
      injection h2 with h2
      simp only at hr h2
      subst hr h2
      have := rd_sound _ _ _ _ h1
      rwa [List.append_nil] at this
    · simp at h2
  · rintro ⟨h, rfl⟩
    exact isTerm_text h
/-- The bytes of a string as numbers. -/
def nats (s : ByteArray) : List Nat := s.data.toList.map UInt8.toNat
theorem nats_length (s : ByteArray) : (nats s).length = s.size := by simp [nats]
theorem bt_nats (s : ByteArray) (i : Nat) (h : i < s.size) : (nats s)[i]? = some (bt s (i : Int)).toNat := by
  unfold nats bt
  rw [dif_pos (by simpa using h)]
  simp only [List.getElem?_map, Int.toNat_natCast]
  have hl : i < s.data.toList.length := by simpa using h
  rw [List.getElem?_eq_getElem hl]
  rfl
theorem nats_extract (s : ByteArray) : nats (s.extract 1 s.size) = (nats s).tail := by
  unfold nats
  rw [Lib.extract_data]
  have : (s.data.toList.drop 1).take (s.size - 1) = s.data.toList.drop 1 := by
    apply List.take_of_length_le
    simp
  rw [this]
  simp
theorem nats_append (a b : ByteArray) : nats (a ++ b) = nats a ++ nats b := by
  unfold nats
  rw [ByteArray.data_append, Array.toList_append, List.map_append]
/-! ### how the two readers read -/
def toS : T → S43
  | .leaf c => ⟨c, []⟩
  | .one c t => ⟨c, [toS t]⟩
  | .two a b => ⟨43, [toS a, toS b]⟩
def toI : T → S37
  | .leaf c => ⟨c, []⟩
  | .one c t => ⟨c, [toI t]⟩
  | .two a b => ⟨40, [toI a, toI b]⟩
theorem etaS (x : S43) : (⟨x.f0, x.f1⟩ : S43) = x := by cases x; rfl
theorem etaI (x : S37) : (⟨x.f0, x.f1⟩ : S37) = x := by cases x; rfl
theorem bt_nonneg (s : ByteArray) (i : Int) : 0 ≤ bt s i := (bt_range s i).1
theorem spec_reads (s : ByteArray) : ∀ (k p : Nat), p ≤ s.size → s.size - p < k →
    match rdT k ((nats s).drop p) with
    | none => (spec_l10Read.g s k (p : Int)).2.2 = 0
    | some (t, r) => r.length < s.size - p ∧ (nats s).drop (s.size - r.length) = r ∧ spec_l10Read.g s k (p : Int) = ((toS t).f0, (toS t).f1, ((s.size - r.length : Nat) : Int)) := by
  intro k
  induction k with
  | zero => intro p hp hk; omega
  | succ k ih =>
    intro p hp hk
    by_cases h1 : p < s.size
    · have hd : (nats s).drop p = (bt s p).toNat :: (nats s).drop (p + 1) := by
        have hl : p < (nats s).length := by rw [nats_length]; exact h1
        rw [List.drop_eq_getElem_cons hl]
        have := bt_nats s p h1
        rw [List.getElem?_eq_getElem hl] at this
        injection this with this
        rw [this]
      have hb := bt_nonneg s (p : Int)
      obtain ⟨c, hc⟩ : ∃ c : Nat, bt s (p : Int) = c := ⟨(bt s (p : Int)).toNat, by omega⟩
      have ihp := ih (p + 1) (by omega) (by omega)
      rw [hd, spec_l10Read.g_succ, if_pos (by omega), hc]
      have L1 : isLetter c ↔ ((c : Int) = 110 ∨ (c : Int) = 101 ∨ (c : Int) = 115 ∨ (c : Int) = 119) := by unfold isLetter; omega
      have S1 : isSign c ↔ ((c : Int) = 45 ∨ (c : Int) = 64 ∨ (50 ≤ (c : Int) ∧ (c : Int) ≤ 57)) := by unfold isSign; omega
      simp only [Int.toNat_natCast, rdT]
      have hp1 : ((p : Int) + 1) = ((p + 1 : Nat) : Int) := by omega
      by_cases hL : isLetter c
      · rw [if_pos hL, if_pos (L1.mp hL)]
        simp only [List.length_drop, nats_length]
        refine ⟨by omega, ?_, ?_⟩
        · congr 1; omega
        · simp only [toS, etaS, Prod.mk.injEq, true_and]; omega
      · rw [if_neg hL, if_neg (fun h => hL (L1.mpr h))]
        by_cases hS : isSign c
        · rw [if_pos hS, if_pos (S1.mp hS), hp1]
          cases e : rdT k ((nats s).drop (p + 1)) with
          | none => rw [e] at ihp; simpa using ihp
          | some x =>
            obtain ⟨t, r⟩ := x
            rw [e] at ihp
            simp only [Option.bind_some]
            obtain ⟨i1, i2, i3⟩ := ihp
            refine ⟨by omega, i2, ?_⟩
            rw [i3]
            simp only [toS, etaS]
        · rw [if_neg hS, if_neg (fun h => hS (S1.mpr h))]
          by_cases h40 : c = 40
          · rw [if_pos h40, if_neg (show ¬ ((c : Int) ≠ 40) by omega), hp1]
            cases e : rdT k ((nats s).drop (p + 1)) with
            | none => rw [e] at ihp; simp only at ihp; rw [if_pos (.inl ihp)]; rfl
            | some x =>
              obtain ⟨t, r⟩ := x
              rw [e] at ihp
              obtain ⟨i1, i2, i3⟩ := ihp
              simp only [Option.bind_some]
              rw [i3]
              simp only
              have hr1 : r.head? = some 43 ↔ ¬ (((s.size - r.length : Nat) : Int) = 0 ∨ (s.size : Int) ≤ ((s.size - r.length : Nat) : Int) ∨ bt s ((s.size - r.length : Nat) : Int) ≠ 43) := by
                have hrr : r.head? = (nats s)[s.size - r.length]? := by rw [← List.head?_drop, i2]
                rw [hrr]
                by_cases hz : r.length = 0
                · rw [List.getElem?_eq_none (by rw [nats_length]; omega)]
                  simp only [reduceCtorEq, false_iff, Decidable.not_not]
                  exact .inr (.inl (by omega))
                · rw [bt_nats s _ (by omega)]
                  have := bt_nonneg s ((s.size - r.length : Nat) : Int)
                  simp only [Option.some.injEq]
                  omega
              by_cases hh : r.head? = some 43
              · rw [if_pos hh, if_neg (hr1.mp hh)]
                have hz : 0 < r.length := by cases r with
                  | nil => simp at hh
                  | cons => simp
                have ht : r.tail = (nats s).drop (s.size - r.length + 1) := by
                  rw [← List.tail_drop, i2]
                have ihq := ih (s.size - r.length + 1) (by omega) (by omega)
                have hp2 : (((s.size - r.length : Nat) : Int) + 1) = ((s.size - r.length + 1 : Nat) : Int) := by omega
                rw [hp2, ht]
                cases e2 : rdT k ((nats s).drop (s.size - r.length + 1)) with
                | none => rw [e2] at ihq; simp only at ihq; rw [if_pos (.inl ihq)]; rfl
                | some y =>
                  obtain ⟨u, q⟩ := y
                  rw [e2] at ihq
                  obtain ⟨j1, j2, j3⟩ := ihq
                  simp only [Option.bind_some]
                  rw [j3]
                  simp only
                  have hr2 : q.head? = some 41 ↔ ¬ (((s.size - q.length : Nat) : Int) = 0 ∨ (s.size : Int) ≤ ((s.size - q.length : Nat) : Int) ∨ bt s ((s.size - q.length : Nat) : Int) ≠ 41) := by
                    have hrr : q.head? = (nats s)[s.size - q.length]? := by rw [← List.head?_drop, j2]
                    rw [hrr]
                    by_cases hz : q.length = 0
                    · rw [List.getElem?_eq_none (by rw [nats_length]; omega)]
                      simp only [reduceCtorEq, false_iff, Decidable.not_not]
                      exact .inr (.inl (by omega))
                    · rw [bt_nats s _ (by omega)]
                      have := bt_nonneg s ((s.size - q.length : Nat) : Int)
                      simp only [Option.some.injEq]
                      omega
                  by_cases hg : q.head? = some 41
                  · rw [if_pos hg, if_neg (hr2.mp hg)]
                    have hz2 : 0 < q.length := by cases q with
                      | nil => simp at hg
                      | cons => simp
                    simp only [List.length_tail]
                    refine ⟨by omega, ?_, ?_⟩
                    · rw [show s.size - (q.length - 1) = s.size - q.length + 1 by omega, ← List.tail_drop, j2]
                    · simp only [toS, etaS, Prod.mk.injEq, true_and]; omega
                  · rw [if_neg hg, if_pos (Decidable.not_not.mp (fun h => hg (hr2.mpr h)))]
              · rw [if_neg hh, if_pos (Decidable.not_not.mp (fun h => hh (hr1.mpr h)))]
          · rw [if_neg h40, if_pos (show (c : Int) ≠ 40 by omega)]
    · have hd : (nats s).drop p = [] := List.drop_eq_nil_of_le (by rw [nats_length]; omega)
      rw [hd, spec_l10Read.g_succ, if_neg (by omega)]
      simp [rdT]
theorem cut_tells (c : Nat) (l : ByteArray) : (impl_takeTerm.cut c l).2 = decide ((nats l).head? = some c) ∧ ((impl_takeTerm.cut c l).2 = true → nats (impl_takeTerm.cut c l).1 = (nats l).tail) := by
  unfold impl_takeTerm.cut
  by_cases h : 0 < l.size
  · have h0 := bt_nats l 0 h
    have hb := bt_nonneg l 0
    rw [List.head?_eq_getElem?, h0]
    by_cases hc : bt l 0 = c
    · rw [if_pos ⟨h, hc⟩]
      refine ⟨?_, fun _ => nats_extract l⟩
      simp [hc]
    · rw [if_neg (fun hh => hc hh.2)]
      refine ⟨?_, fun hh => by simp at hh⟩
      simp
      have h1 : bt l ((0 : Nat) : Int) = bt l 0 := rfl
      omega
  · rw [if_neg (fun hh => h hh.1)]
    have : nats l = [] := List.eq_nil_of_length_eq_zero (by rw [nats_length]; omega)
    rw [this]
    exact ⟨by simp, fun hh => by simp at hh⟩
theorem impl_reads : ∀ (k : Nat) (s : ByteArray), s.size < k →
    match rdT k (nats s) with
    | none => (impl_takeTerm.g k s).2.2.2 = false
    | some (t, r) => ∃ l, nats l = r ∧ impl_takeTerm.g k s = ((toI t).f0, (toI t).f1, l, true) := by
  intro k
  induction k with
  | zero => intro s hk; omega
  | succ k ih =>
    intro s hk
    rw [impl_takeTerm.g_succ]
    by_cases h0 : s.size = 0
    · have hd : nats s = [] := List.eq_nil_of_length_eq_zero (by rw [nats_length]; exact h0)
      rw [hd, if_pos h0]
      simp [rdT]
    · have h1 : 0 < s.size := by omega
      have hd : nats s = (bt s 0).toNat :: nats (s.extract 1 s.size) := by
        rw [nats_extract]
        have := bt_nats s 0 h1
        rw [← List.head?_eq_getElem?] at this
        exact head_tail this
      have hx : (s.extract 1 s.size).size = s.size - 1 := by simp only [ByteArray.size_extract]; omega
      have hb := bt_nonneg s 0
      obtain ⟨c, hc⟩ : ∃ c : Nat, bt s 0 = c := ⟨(bt s 0).toNat, by omega⟩
      have ih1 := ih (s.extract 1 s.size) (by omega)
      rw [hd, if_neg h0, hc]
      generalize s.extract 1 s.size = s1 at ih1 hx
      have L1 : isLetter c ↔ ((c : Int) = 101 ∨ (c : Int) = 110 ∨ (c : Int) = 119 ∨ (c : Int) = 115) := by unfold isLetter; omega
      have S1 : isSign c ↔ ((c : Int) = 45 ∨ (c : Int) = 64 ∨ (50 ≤ (c : Int) ∧ (c : Int) ≤ 57)) := by unfold isSign; omega
      simp only [Int.toNat_natCast, rdT]
      by_cases hL : isLetter c
      · rw [if_pos hL, if_pos (L1.mp hL)]
        exact ⟨s1, rfl, rfl⟩
      · rw [if_neg hL, if_neg (fun h => hL (L1.mpr h))]
        by_cases hS : isSign c
        · rw [if_pos hS, if_pos (S1.mp hS)]
          cases e : rdT k (nats s1) with
          | none => rw [e] at ih1; simpa using ih1
          | some x =>
            obtain ⟨t, r⟩ := x
            rw [e] at ih1
            obtain ⟨l, i1, i2⟩ := ih1
            simp only [Option.bind_some]
            refine ⟨l, i1, ?_⟩
            rw [i2]
            simp only [toI, etaI]
        · rw [if_neg hS, if_neg (fun h => hS (S1.mpr h))]
          by_cases h40 : c = 40
          · rw [if_pos h40, if_neg (show ¬ ((c : Int) ≠ 40) by omega)]
            cases e : rdT k (nats s1) with
            | none => rw [e] at ih1; simp only at ih1; rw [if_pos (.inl ih1)]; rfl
            | some x =>
              obtain ⟨t, r⟩ := x
              rw [e] at ih1
              obtain ⟨l, i1, i2⟩ := ih1
              simp only [Option.bind_some]
              rw [i2]
              simp only [Bool.true_eq_false, false_or]
              obtain ⟨c1, c2⟩ := cut_tells 43 l
              rw [i1] at c1 c2
              have e43 : ((43 : Nat) : Int) = 43 := rfl
              rw [e43] at c1 c2
              by_cases hh : r.head? = some 43
              · have c3 : (impl_takeTerm.cut 43 l).2 = true := by rw [c1]; exact decide_eq_true hh
                have hl : (impl_takeTerm.cut 43 l).1.size < k := by
                  have hlen := congrArg List.length (c2 c3)
                  have hlt := rd_len e
                  rw [nats_length, List.length_tail] at hlen
                  rw [nats_length] at hlt
                  omega
                have ih2 := ih (impl_takeTerm.cut 43 l).1 hl
                rw [if_pos hh, if_neg (by rw [c3]; decide)]
                rw [c2 c3] at ih2
                cases e2 : rdT k r.tail with
                | none => rw [e2] at ih2; simp only at ih2; rw [ih2]; rfl
                | some y =>
                  obtain ⟨u, q⟩ := y
                  rw [e2] at ih2
                  obtain ⟨m, j1, j2⟩ := ih2
                  simp only [Option.bind_some]
                  rw [j2]
                  simp only [Bool.true_and]
                  obtain ⟨d1, d2⟩ := cut_tells 41 m
                  rw [j1] at d1 d2
                  have e41 : ((41 : Nat) : Int) = 41 := rfl
                  rw [e41] at d1 d2
                  by_cases hg : q.head? = some 41
                  · have d3 : (impl_takeTerm.cut 41 m).2 = true := by rw [d1]; exact decide_eq_true hg
                    rw [if_pos hg, d3]
                    exact ⟨_, d2 d3, by rw [h40]; simp only [toI, etaI]; rfl⟩
                  · rw [if_neg hg]
                    simp only
                    rw [d1]
                    exact decide_eq_false hg
              · rw [if_neg hh, if_pos (by rw [c1]; exact decide_eq_false hh)]
          · rw [if_neg h40, if_pos (show (c : Int) ≠ 40 by omega)]
/-- What the reference's reader of a whole text tells. -/
theorem spec_of (s : ByteArray) : if s.size ≤ 60 then
      match isTerm (nats s) with
      | none => ∃ a b, spec_l10Of.f s = some (a, b, false)
      | some t => spec_l10Of.f s = some ((toS t).f0, (toS t).f1, true)
    else ∃ a b, spec_l10Of.f s = some (a, b, false) := by
  unfold spec_l10Of.f
  by_cases hs : s.size ≤ 60
  · rw [if_pos hs, if_neg (by omega)]
    have h := spec_reads s (s.size + 1) 0 (by omega) (by omega)
    unfold isTerm
    rw [nats_length]
    simp only [List.drop_zero, Nat.sub_zero] at h
    unfold spec_l10Read.f
    rw [if_pos hs, if_pos (by omega)]
    simp only [Option.bind_some]
    have e0 : ((0 : Nat) : Int) = 0 := rfl
    rw [e0] at h
    cases e : rdT (s.size + 1) (nats s) with
    | none =>
      rw [e] at h
      simp only at h
      rw [h]
      simp
    | some x =>
      obtain ⟨t, r⟩ := x
      rw [e] at h
      obtain ⟨h1, h2, h3⟩ := h
      simp only [Option.bind_some]
      rw [h3]
      simp only
      rw [if_pos (show ((s.size - r.length : Nat) : Int) > 0 by omega)]
      by_cases hr : r = []
      · subst hr
        simp
      · have : 0 < r.length := List.length_pos_iff.mpr hr
        rw [if_neg hr]
        have hne : (((s.size - r.length : Nat) : Int) == (s.size : Int)) = false := by simp; omega
        rw [hne]
        exact ⟨_, _, rfl⟩
  · rw [if_neg hs, if_pos (by omega)]
    exact ⟨_, _, rfl⟩
/-- What the program's reader of a whole text tells. -/
theorem impl_of (s : ByteArray) : if s.size ≤ 60 then
      match isTerm (nats s) with
      | none => ∃ a b, impl_readTerm.f s = some (a, b, false)
      | some t => impl_readTerm.f s = some ((toI t).f0, (toI t).f1, true)
    else ∃ a b, impl_readTerm.f s = some (a, b, false) := by
  unfold impl_readTerm.f
  by_cases hs : s.size ≤ 60
  · rw [if_pos hs, if_neg (by omega)]
    have h := impl_reads (s.size + 1) s (by omega)
    unfold isTerm
    rw [nats_length]
    unfold impl_takeTerm.f
    rw [if_pos hs]
    simp only [Option.bind_some]
    cases e : rdT (s.size + 1) (nats s) with
    | none =>
      rw [e] at h
      simp only at h
      rw [h]
      simp
    | some x =>
      obtain ⟨t, r⟩ := x
      rw [e] at h
      obtain ⟨l, h1, h2⟩ := h
      simp only [Option.bind_some]
      rw [h2]
      simp only [if_true]
      by_cases hr : r = []
      · subst hr
        have : l.toList = [] := by
          rw [Lib.toList_data]
          exact List.map_eq_nil_iff.mp h1
        rw [this]
        simp
      · rw [if_neg hr]
        have : (l.toList == ([] : List UInt8)) = false := by
          rw [Lib.toList_data]
          simp
          intro hh
          exact hr (by rw [← h1]; unfold nats; rw [hh]; rfl)
        rw [this]
        exact ⟨_, _, rfl⟩
  · rw [if_neg hs, if_pos (by omega)]
    exact ⟨_, _, rfl⟩
/-! ### lengths -/
def T.len : T → Nat
  | .leaf _ => 1
  | .one c t => if 50 ≤ c ∧ c ≤ 57 then (c - 48) * t.len else t.len
  | .two a b => a.len + b.len
theorem T.len_pos : ∀ {t : T}, t.ok → 1 ≤ t.len
  | .leaf _, _ => Nat.le_refl _
  | .one c t, h => by
    have := T.len_pos h.2
    unfold T.len
    split
    · next hc => exact Nat.le_trans this (Nat.le_mul_of_pos_left _ (by omega))
    · exact this
  | .two a b, h => by
    have := T.len_pos h.1
    unfold T.len
    omega
theorem mn_is (m n : Nat) : mn (m : Int) (n : Int) = ((min m n : Nat) : Int) := by
  unfold mn
  split <;> omega
/-- The term that a text is, if its walk has at most 200 letters. -/
def short (s : ByteArray) : Option T := if s.size ≤ 60 then (isTerm (nats s)).bind fun t => if t.len ≤ 200 then some t else none else none
theorem text_size {s : ByteArray} {t : T} (h : isTerm (nats s) = some t) : t.ok ∧ t.text.length = s.size := by
  obtain ⟨h1, h2⟩ := isTerm_some.mp h
  exact ⟨h1, by rw [← h2, nats_length]⟩
theorem short_some {s : ByteArray} {t : T} (h : short s = some t) : t.ok ∧ t.len ≤ 200 ∧ nats s = t.text ∧ s.size ≤ 60 ∧ t.text.length ≤ 60 := by
  unfold short at h
  split at h
  · next hs =>
    obtain ⟨u, h1, h2⟩ := Option.bind_eq_some_iff.mp h
    split at h2
    · next hl =>
      injection h2 with h2
      subst h2
      have := text_size h1
      exact ⟨this.1, hl, (isTerm_some.mp h1).2, hs, by omega⟩
    · simp at h2
  · simp at h
theorem spec_long : ∀ (t : T), t.ok → ∀ k, 2 * t.text.length ≤ k → spec_l10Long.f k (toS t).f0 (toS t).f1 = some ((min 1000 t.len : Nat) : Int) := by
  intro t
  induction t with
  | leaf c =>
    intro ho k hk
    simp only [T.text, List.length_cons, List.length_nil] at hk
    obtain ⟨m, rfl⟩ : ∃ m, k = m + 2 := ⟨k - 2, by omega⟩
    have ho : isLetter c := ho
    unfold isLetter at ho
    simp only [toS]
    rw [spec_l10Long.f]
    rw [if_neg (show ¬ ((c : Int) = 43) by omega), if_neg (show ¬ ((c : Int) = 45) by omega)]
    rw [spec_l10Long.j0, if_neg (by simp; omega)]
    split
    · rw [if_neg (show ¬ ((c : Int) ≤ 57) by omega)]; rfl
    · rfl
  | one c t ih =>
    intro ho k hk
    simp only [T.text, List.length_cons] at hk
    obtain ⟨m, rfl⟩ : ∃ m, k = m + 2 := ⟨k - 2, by omega⟩
    have hc : isSign c := ho.1
    unfold isSign at hc
    have hp := T.len_pos ho.2
    have hrec := ih ho.2 m (by omega)
    have hrec' := ih ho.2 (m + 1) (by omega)
    have h0 : (0 : Int) < (([toS t].length : Nat) : Int) := by simp
    have hg : rd_T43 [toS t] 0 = toS t := rfl
    simp only [toS]
    rw [spec_l10Long.f]
    rw [if_neg (show ¬ ((c : Int) = 43) by omega)]
    by_cases h45 : c = 45
    · rw [if_pos (show (c : Int) = 45 by omega)]
      rw [spec_l10Long.j0, if_pos rfl, if_pos h0, hg, hrec]
      simp only [Option.bind_some, T.len]
      rw [if_neg (by omega)]
    · rw [if_neg (show ¬ ((c : Int) = 45) by omega)]
      rw [spec_l10Long.j0]
      by_cases h64 : c = 64
      · rw [if_pos (by simp; omega), if_pos h0, hg, hrec]
        simp only [Option.bind_some, T.len, h64]
        rw [if_neg (by omega)]
      · rw [if_neg (by simp; omega), if_pos (show (c : Int) ≥ 50 by omega), if_pos (show (c : Int) ≤ 57 by omega), if_pos h0, hg, hrec]
        simp only [Option.bind_some, T.len]
        rw [if_pos (by omega)]
        obtain ⟨d, rfl⟩ : ∃ d, c = d + 48 := ⟨c - 48, by omega⟩
        have hd : (((d + 48 : Nat) : Int) - 48) % 256 = (d : Int) := by omega
        rw [hd, Nat.add_sub_cancel]
        have hm : (d : Int) * ((min 1000 t.len : Nat) : Int) = ((d * min 1000 t.len : Nat) : Int) := by push_cast; rfl
        rw [hm]
        have hbd : d * min 1000 t.len ≤ 9 * 1000 := Nat.mul_le_mul (by omega) (Nat.min_le_left _ _)
        have hw : wrap64 ((d * min 1000 t.len : Nat) : Int) = ((d * min 1000 t.len : Nat) : Int) := by unfold wrap64; omega
        rw [hw]
        have := mn_is 1000 (d * min 1000 t.len)
        have e1000 : ((1000 : Nat) : Int) = 1000 := rfl
        rw [e1000] at this
        rw [this]
        refine congrArg (fun n : Nat => some (n : Int)) ?_
        rcases Nat.le_total t.len 1000 with h | h
        · rw [Nat.min_eq_right h]
        · rw [Nat.min_eq_left h]
          have h2 : 2 * 1000 ≤ d * 1000 := Nat.mul_le_mul_right _ (by omega)
          have h3 : d * 1000 ≤ d * t.len := Nat.mul_le_mul_left _ h
          omega
  | two a b iha ihb =>
    intro ho k hk
    rw [T.text_two] at hk
    obtain ⟨m, rfl⟩ : ∃ m, k = m + 2 := ⟨k - 2, by omega⟩
    simp only [toS]
    rw [spec_l10Long.f, if_pos rfl]
    have hg : rd_T43 [toS a, toS b] 0 = toS a := rfl
    have hh : rd_T43 [toS a, toS b] 1 = toS b := rfl
    rw [if_pos (by simp), hg, iha ho.1 (m + 1) (by omega)]
    simp only [Option.bind_some]
    rw [if_pos (by simp), hh, ihb ho.2 (m + 1) (by omega)]
    simp only [Option.bind_some, T.len]
    have hw : wrap64 (((min 1000 a.len : Nat) : Int) + ((min 1000 b.len : Nat) : Int)) = ((min 1000 a.len + min 1000 b.len : Nat) : Int) := by unfold wrap64; omega
    rw [hw]
    have := mn_is 1000 (min 1000 a.len + min 1000 b.len)
    have e1000 : ((1000 : Nat) : Int) = 1000 := rfl
    rw [e1000] at this
    rw [this]
    refine congrArg (fun n : Nat => some (n : Int)) ?_
    omega
theorem spec_short (s : ByteArray) (k : Nat) (hk : 120 ≤ k) : match short s with
    | none => ∃ a b, spec_l10Short.f k s = some (a, b, false)
    | some t => spec_l10Short.f k s = some ((toS t).f0, (toS t).f1, true) := by
  have h := spec_of s
  unfold spec_l10Short.f short
  by_cases hs : s.size ≤ 60
  · rw [if_pos hs] at h ⊢
    cases e : isTerm (nats s) with
    | none =>
      rw [e] at h
      obtain ⟨a, b, h⟩ := h
      rw [h]
      simp
    | some t =>
      rw [e] at h
      simp only at h
      obtain ⟨ho, hl⟩ := text_size e
      rw [h]
      simp only [Option.bind_some, if_true]
      rw [spec_long t ho k (by omega)]
      simp only [Option.bind_some]
      by_cases hl : t.len ≤ 200
      · rw [if_pos hl]
        simp only
        rw [decide_eq_true (by omega)]
      · rw [if_neg hl]
        simp only
        rw [decide_eq_false (by omega)]
        exact ⟨_, _, rfl⟩
  · rw [if_neg hs] at h ⊢
    obtain ⟨a, b, h⟩ := h
    rw [h]
    simp
theorem impl_long : ∀ (t : T), t.ok → ∀ k, 2 * t.text.length ≤ k → impl_term_length.f k (toI t).f0 (toI t).f1 = some ((min 201 t.len : Nat) : Int) := by
  intro t
  induction t with
  | leaf c =>
    intro ho k hk
    simp only [T.text, List.length_cons, List.length_nil] at hk
    obtain ⟨m, rfl⟩ : ∃ m, k = m + 2 := ⟨k - 2, by omega⟩
    simp only [toI]
    rw [impl_term_length.f]
    rw [if_pos (by simp)]
    rfl
  | one c t ih =>
    intro ho k hk
    simp only [T.text, List.length_cons] at hk
    obtain ⟨m, rfl⟩ : ∃ m, k = m + 2 := ⟨k - 2, by omega⟩
    have hc : isSign c := ho.1
    unfold isSign at hc
    have hp := T.len_pos ho.2
    have hrec := ih ho.2 m (by omega)
    have h0 : (0 : Int) < (([toI t].length : Nat) : Int) := by simp
    have hg : rd_T37 [toI t] 0 = toI t := rfl
    simp only [toI]
    rw [impl_term_length.f]
    rw [if_neg (show ¬ ((([toI t].length : Nat) : Int) = 0) by simp), if_neg (show ¬ ((([toI t].length : Nat) : Int) = 2) by simp)]
    by_cases h64 : 50 ≤ c ∧ c ≤ 57
    · rw [if_pos (show (c : Int) ≥ 50 by omega)]
      rw [impl_term_length.j0, if_pos (decide_eq_true (show (c : Int) ≤ 57 by omega)), if_pos h0, hg, hrec]
      simp only [Option.bind_some, T.len]
      rw [if_pos (by omega)]
      obtain ⟨d, rfl⟩ : ∃ d, c = d + 48 := ⟨c - 48, by omega⟩
      have hd : (((d + 48 : Nat) : Int) - 48) % 256 = (d : Int) := by omega
      rw [hd, Nat.add_sub_cancel]
      have hm : (d : Int) * ((min 201 t.len : Nat) : Int) = ((d * min 201 t.len : Nat) : Int) := by push_cast; rfl
      rw [hm]
      have hbd : d * min 201 t.len ≤ 9 * 201 := Nat.mul_le_mul (by omega) (Nat.min_le_left _ _)
      have hw : wrap64 ((d * min 201 t.len : Nat) : Int) = ((d * min 201 t.len : Nat) : Int) := by unfold wrap64; omega
      rw [hw]
      have := mn_is 201 (d * min 201 t.len)
      have e201 : ((201 : Nat) : Int) = 201 := rfl
      rw [e201] at this
      rw [this]
      refine congrArg (fun n : Nat => some (n : Int)) ?_
      rcases Nat.le_total t.len 201 with h | h
      · rw [Nat.min_eq_right h]
      · rw [Nat.min_eq_left h]
        have h2 : 2 * 201 ≤ d * 201 := Nat.mul_le_mul_right _ (by omega)
        have h3 : d * 201 ≤ d * t.len := Nat.mul_le_mul_left _ h
        omega
    · have hlen : (T.one c t).len = t.len := if_neg h64
      have hj : ∀ b, b = false → impl_term_length.j0 (m + 1) b (c : Int) [toI t] = some ((min 201 t.len : Nat) : Int) := by
        intro b hb
        subst hb
        rw [impl_term_length.j0, if_neg (by decide), if_pos h0, hg, hrec]
        rfl
      rw [hlen]
      split
      · exact hj _ (decide_eq_false (by omega))
      · exact hj _ rfl
  | two a b iha ihb =>
    intro ho k hk
    rw [T.text_two] at hk
    obtain ⟨m, rfl⟩ : ∃ m, k = m + 2 := ⟨k - 2, by omega⟩
    simp only [toI]
    rw [impl_term_length.f]
    have hg : rd_T37 [toI a, toI b] 0 = toI a := rfl
    have hh : rd_T37 [toI a, toI b] 1 = toI b := rfl
    rw [if_neg (by simp), if_pos (by simp), if_pos (by simp), hg, iha ho.1 (m + 1) (by omega)]
    simp only [Option.bind_some]
    rw [if_pos (by simp), hh, ihb ho.2 (m + 1) (by omega)]
    simp only [Option.bind_some, T.len]
    have hw : wrap64 (((min 201 a.len : Nat) : Int) + ((min 201 b.len : Nat) : Int)) = ((min 201 a.len + min 201 b.len : Nat) : Int) := by unfold wrap64; omega
    rw [hw]
    have := mn_is 201 (min 201 a.len + min 201 b.len)
    have e201 : ((201 : Nat) : Int) = 201 := rfl
    rw [e201] at this
    rw [this]
    refine congrArg (fun n : Nat => some (n : Int)) ?_
    omega
theorem impl_short (s : ByteArray) (k : Nat) (hk : 120 ≤ k) : match short s with
    | none => ∃ a b, impl_walkable.f k s = some (a, b, false)
    | some t => impl_walkable.f k s = some ((toI t).f0, (toI t).f1, true) := by
  have h := impl_of s
  unfold impl_walkable.f short
  by_cases hs : s.size ≤ 60
  · rw [if_pos hs] at h ⊢
    cases e : isTerm (nats s) with
    | none =>
      rw [e] at h
      obtain ⟨a, b, h⟩ := h
      rw [h]
      simp
    | some t =>
      rw [e] at h
      simp only at h
      obtain ⟨ho, hl⟩ := text_size e
      rw [h]
      simp only [Option.bind_some, if_true]
      rw [impl_long t ho k (by omega)]
      simp only [Option.bind_some]
      by_cases hl : t.len ≤ 200
      · rw [if_pos hl]
        simp only
        rw [decide_eq_true (by omega)]
      · rw [if_neg hl]
        simp only
        rw [decide_eq_false (by omega)]
        exact ⟨_, _, rfl⟩
  · rw [if_neg hs] at h ⊢
    obtain ⟨a, b, h⟩ := h
    rw [h]
    simp
/-! ### ends and areas -/
def T.ends : T → Int × Int × Int
  | .leaf c => if c = 101 then (1, 0, 0) else if c = 110 then (0, 1, 0) else if c = 119 then (-1, 0, 0) else (0, -1, 0)
  | .one c t =>
    if c = 45 then (-t.ends.1, -t.ends.2.1, -t.ends.2.2)
    else if c = 64 then (-t.ends.2.1, t.ends.1, t.ends.2.2)
    else (((c : Int) - 48) * t.ends.1, ((c : Int) - 48) * t.ends.2.1, ((c : Int) - 48) * t.ends.2.2)
  | .two a b => (a.ends.1 + b.ends.1, a.ends.2.1 + b.ends.2.1, a.ends.2.2 + b.ends.2.2 + a.ends.1 * b.ends.2.1 - a.ends.2.1 * b.ends.1)
def inB (x : Int) (n : Nat) : Prop := -(n : Int) ≤ x ∧ x ≤ n
theorem inB_mul {x y : Int} {m n : Nat} (hx : inB x m) (hy : inB y n) : inB (x * y) (m * n) := by
  unfold inB at *
  have h1 : (x * y).natAbs ≤ m * n := by
    rw [Int.natAbs_mul]
    exact Nat.mul_le_mul (by omega) (by omega)
  have h2 : ((x * y).natAbs : Int) ≤ ((m * n : Nat) : Int) := by omega
  omega
theorem T.ends_in : ∀ (t : T), t.ok → inB t.ends.1 t.len ∧ inB t.ends.2.1 t.len ∧ inB t.ends.2.2 (t.len * t.len)
  | .leaf c, h => by
    unfold T.ends T.len inB
    split
    · simp only; omega
    · split
      · simp only; omega
      · split <;> (simp only; omega)
  | .one c t, h => by
    obtain ⟨h1, h2, h3⟩ := T.ends_in t h.2
    have hc := h.1
    unfold isSign at hc
    unfold T.ends T.len
    by_cases c1 : c = 45
    · rw [if_pos c1, if_neg (by omega)]
      unfold inB at *
      simp only
      omega
    · rw [if_neg c1]
      by_cases c2 : c = 64
      · rw [if_pos c2, if_neg (by omega)]
        unfold inB at *
        simp only
        omega
      · rw [if_neg c2, if_pos (by omega)]
        have hd : inB ((c : Int) - 48) (c - 48) := by unfold inB; omega
        refine ⟨inB_mul hd h1, inB_mul hd h2, ?_⟩
        have h4 := inB_mul hd h3
        have h5 : (c - 48) * (t.len * t.len) ≤ (c - 48) * t.len * ((c - 48) * t.len) := by
          rw [Nat.mul_assoc]
          refine Nat.mul_le_mul_left _ ?_
          refine Nat.mul_le_mul_left t.len ?_
          exact Nat.le_mul_of_pos_left _ (by omega)
        unfold inB at *
        simp only at h4 ⊢
        omega
  | .two a b, h => by
    obtain ⟨a1, a2, a3⟩ := T.ends_in a h.1
    obtain ⟨b1, b2, b3⟩ := T.ends_in b h.2
    have p1 := inB_mul a1 b2
    have p2 := inB_mul a2 b1
    have e : (a.len + b.len) * (a.len + b.len) = a.len * a.len + a.len * b.len + (a.len * b.len + b.len * b.len) := by
      rw [Nat.add_mul, Nat.mul_add, Nat.mul_add, Nat.mul_comm b.len a.len]
    unfold T.ends T.len
    rw [e]
    unfold inB at *
    simp only
    omega
theorem T.sub_len {c : Nat} {t : T} (h : isSign c) : t.len ≤ (T.one c t).len := by
  unfold isSign at h
  show t.len ≤ if 50 ≤ c ∧ c ≤ 57 then (c - 48) * t.len else t.len
  split
  · exact Nat.le_mul_of_pos_left _ (by omega)
  · exact Nat.le_refl _
theorem sq_le {m : Nat} (h : m ≤ 200) : m * m ≤ 40000 := Nat.mul_le_mul h h
/-- Nothing wraps where the walk has at most 200 letters. -/
theorem T.ends_small {t : T} (ho : t.ok) (hl : t.len ≤ 200) : inB t.ends.1 200 ∧ inB t.ends.2.1 200 ∧ inB t.ends.2.2 40000 := by
  obtain ⟨h1, h2, h3⟩ := T.ends_in t ho
  have := sq_le hl
  unfold inB at *
  omega
/-! ### walks -/
def turn (c : Nat) : Nat := if c = 101 then 110 else if c = 110 then 119 else if c = 119 then 115 else 101
def opp (c : Nat) : Nat := turn (turn c)
theorem turn_letter (c : Nat) : isLetter (turn c) := by
  unfold turn isLetter
  split
  · omega
  · split
    · omega
    · split <;> omega
theorem nats_inj {a b : ByteArray} (h : nats a = nats b) : a = b := by
  unfold nats at h
  have h2 : a.data.toList = b.data.toList := by
    refine List.map_inj_right ?_ |>.mp h
    intro x y hxy
    exact UInt8.toNat_inj.mp hxy
  cases a with
  | mk a =>
    cases b with
    | mk b => congr 1; exact Array.toList_inj.mp h2
theorem nats_nums (l : List Nat) (h : ∀ c ∈ l, c < 256) : nats (strOfNums (l.map (fun c : Nat => (c : Int)))) = l := by
  unfold nats
  rw [strOfNums_data, List.map_map, List.map_map]
  conv => rhs; rw [← List.map_id l]
  refine List.map_congr_left fun c hc => ?_
  have := h c hc
  simp only [Function.comp, Int.toNat_natCast, UInt8.toNat_ofNat', id]
  exact Nat.mod_eq_of_lt (by omega)
theorem letter_lt {c : Nat} (h : isLetter c) : c < 256 := by unfold isLetter at h; omega
theorem bt_nat (s : ByteArray) (i : Nat) (h : i < s.size) : ∃ c, bt s (i : Int) = (c : Nat) ∧ (nats s)[i]? = some c := by
  have h1 := bt_nats s i h
  have h2 := bt_nonneg s (i : Int)
  exact ⟨(bt s (i : Int)).toNat, by omega, h1⟩
theorem drop_at {l : List Nat} {i c : Nat} (h : l[i]? = some c) : l.drop i = c :: l.drop (i + 1) := by
  obtain ⟨hi, rfl⟩ := List.getElem?_eq_some_iff.mp h
  exact List.drop_eq_getElem_cons hi
def turns : Nat → Nat → Nat
  | 0, c => c
  | n + 1, c => turns n (turn c)
theorem turned_l (n : Nat) : ∀ (d k c i : Nat), i + d = n → n ≤ 3 → d < k → spec_l10Turned.l0 k (c : Int) (n : Int) (i : Int) = some ((turns d c : Nat) : Int) := by
  intro d
  induction d with
  | zero =>
    intro k c i hi hn hk
    obtain ⟨m, rfl⟩ : ∃ m, k = m + 1 := ⟨k - 1, by omega⟩
    rw [spec_l10Turned.l0, if_neg (by omega)]
    rfl
  | succ d ih =>
    intro k c i hi hn hk
    obtain ⟨m, rfl⟩ : ∃ m, k = m + 1 := ⟨k - 1, by omega⟩
    have hw : wrap64 ((i : Int) + 1) = ((i + 1 : Nat) : Int) := by unfold wrap64; omega
    rw [spec_l10Turned.l0, if_pos (by omega), hw]
    have h := fun c' => ih m c' (i + 1) (by omega) hn (by omega)
    by_cases c1 : c = 101
    · rw [if_pos (show (c : Int) = 101 by omega)]
      have e : turn c = 110 := by unfold turn; rw [if_pos c1]
      rw [turns, e]
      exact h 110
    · rw [if_neg (show ¬ (c : Int) = 101 by omega)]
      by_cases c2 : c = 110
      · rw [if_pos (show (c : Int) = 110 by omega)]
        have e : turn c = 119 := by unfold turn; rw [if_neg c1, if_pos c2]
        rw [turns, e]
        exact h 119
      · rw [if_neg (show ¬ (c : Int) = 110 by omega)]
        by_cases c3 : c = 119
        · rw [if_pos (show (c : Int) = 119 by omega)]
          have e : turn c = 115 := by unfold turn; rw [if_neg c1, if_neg c2, if_pos c3]
          rw [turns, e]
          exact h 115
        · rw [if_neg (show ¬ (c : Int) = 119 by omega)]
          have e : turn c = 101 := by unfold turn; rw [if_neg c1, if_neg c2, if_neg c3]
          rw [turns, e]
          exact h 101
theorem turned_1 (k c : Nat) (hk : 4 ≤ k) : spec_l10Turned.f k (c : Int) 1 = some ((turn c : Nat) : Int) := turned_l 1 1 k c 0 rfl (by omega) (by omega)
theorem turned_2 (k c : Nat) (hk : 4 ≤ k) : spec_l10Turned.f k (c : Int) 2 = some ((opp c : Nat) : Int) := turned_l 2 2 k c 0 rfl (by omega) (by omega)
theorem turned_3 (k c : Nat) (hk : 4 ≤ k) : spec_l10Turned.f k (c : Int) 3 = some ((turn (opp c) : Nat) : Int) := turned_l 3 3 k c 0 rfl (by omega) (by omega)
def T.walk : T → List Nat
  | .leaf c => [c]
  | .one c t => if c = 45 then (t.walk.map opp).reverse else if c = 64 then t.walk.map turn else (List.replicate (c - 48) t.walk).flatten
  | .two a b => a.walk ++ b.walk
theorem flat_len (n : Nat) (l : List Nat) : (List.replicate n l).flatten.length = n * l.length := by
  induction n with
  | zero => simp
  | succ n ih => rw [List.replicate_succ, List.flatten_cons, List.length_append, ih, Nat.succ_mul, Nat.add_comm]
theorem T.walk_len : ∀ (t : T), t.ok → t.walk.length = t.len
  | .leaf _, _ => rfl
  | .one c t, h => by
    have := T.walk_len t h.2
    have hc := h.1
    unfold isSign at hc
    unfold T.walk T.len
    by_cases c1 : c = 45
    · rw [if_pos c1, if_neg (by omega), List.length_reverse, List.length_map, this]
    · rw [if_neg c1]
      by_cases c2 : c = 64
      · rw [if_pos c2, if_neg (by omega), List.length_map, this]
      · rw [if_neg c2, if_pos (by omega), flat_len, this]
  | .two a b, h => by
    unfold T.walk T.len
    rw [List.length_append, T.walk_len a h.1, T.walk_len b h.2]
theorem T.walk_letters : ∀ (t : T), t.ok → ∀ c ∈ t.walk, isLetter c
  | .leaf c, h => by intro d hd; simp [T.walk] at hd; subst hd; exact h
  | .one c t, h => by
    have ih := T.walk_letters t h.2
    intro d hd
    unfold T.walk at hd
    split at hd
    · rw [List.mem_reverse, List.mem_map] at hd
      obtain ⟨e, _, rfl⟩ := hd
      exact turn_letter _
    · split at hd
      · rw [List.mem_map] at hd
        obtain ⟨e, _, rfl⟩ := hd
        exact turn_letter _
      · rw [List.mem_flatten] at hd
        obtain ⟨l, hl, hd⟩ := hd
        rw [(List.mem_replicate.mp hl).2] at hd
        exact ih d hd
  | .two a b, h => by
    intro d hd
    unfold T.walk at hd
    rcases List.mem_append.mp hd with hd | hd
    · exact T.walk_letters a h.1 d hd
    · exact T.walk_letters b h.2 d hd
def cast (l : List Nat) : List Int := l.map (fun c : Nat => (c : Int))
theorem cast_append (a b : List Nat) : cast (a ++ b) = cast a ++ cast b := List.map_append
theorem size_of_walk {s : ByteArray} {t : T} (ho : t.ok) (h : nats s = t.walk) : s.size = t.len := by
  rw [← nats_length, h, T.walk_len t ho]
theorem spec_loop_turn (s : ByteArray) (hs : s.size ≤ 1000) (kids : List S43) : ∀ (d k i : Nat) (acc : List Nat), i + d = s.size → d + 5 ≤ k → acc.length = i →
    spec_l10Walk.l0 k s (cast acc) (i : Int) 64 kids = some (strOfNums (cast (acc ++ ((nats s).drop i).map turn))) := by
  intro d
  induction d with
  | zero =>
    intro k i acc hi hk ha
    obtain ⟨m, rfl⟩ : ∃ m, k = m + 1 := ⟨k - 1, by omega⟩
    rw [spec_l10Walk.l0, if_neg (by omega), List.drop_eq_nil_of_le (by rw [nats_length]; omega), List.map_nil, List.append_nil]
  | succ d ih =>
    intro k i acc hi hk ha
    obtain ⟨m, rfl⟩ : ∃ m, k = m + 1 := ⟨k - 1, by omega⟩
    obtain ⟨c, hc, hc2⟩ := bt_nat s i (by omega)
    have hw : wrap64 ((i : Int) + 1) = ((i + 1 : Nat) : Int) := by unfold wrap64; omega
    rw [spec_l10Walk.l0, if_pos (by omega), if_pos rfl, if_pos (by omega), hc, turned_1 m c (by omega), hw]
    simp only [Option.bind_some]
    rw [if_pos (by simp [cast]; omega)]
    have e : cast acc ++ [((turn c : Nat) : Int)] = cast (acc ++ [turn c]) := by rw [cast_append]; rfl
    rw [e, ih m (i + 1) (acc ++ [turn c]) (by omega) (by omega) (by rw [List.length_append, ha]; rfl), drop_at hc2, List.map_cons, List.append_assoc]
    rfl
theorem spec_loop_back (s : ByteArray) (hs : s.size ≤ 1000) (kids : List S43) : ∀ (d k i : Nat) (acc : List Nat), i + d = s.size → d + 5 ≤ k → acc.length = i →
    spec_l10Walk.l0 k s (cast acc) (i : Int) 45 kids = some (strOfNums (cast (acc ++ (((nats s).take (s.size - i)).map opp).reverse))) := by
  intro d
  induction d with
  | zero =>
    intro k i acc hi hk ha
    obtain ⟨m, rfl⟩ : ∃ m, k = m + 1 := ⟨k - 1, by omega⟩
    rw [spec_l10Walk.l0, if_neg (by omega), show s.size - i = 0 by omega]
    simp
  | succ d ih =>
    intro k i acc hi hk ha
    obtain ⟨m, rfl⟩ : ∃ m, k = m + 1 := ⟨k - 1, by omega⟩
    obtain ⟨c, hc, hc2⟩ := bt_nat s (s.size - 1 - i) (by omega)
    have hw : wrap64 ((i : Int) + 1) = ((i + 1 : Nat) : Int) := by unfold wrap64; omega
    have hw1 : wrap64 ((s.size : Int) - 1) = (s.size : Int) - 1 := by unfold wrap64; omega
    have hw2 : wrap64 ((s.size : Int) - 1 - i) = ((s.size - 1 - i : Nat) : Int) := by unfold wrap64; omega
    rw [spec_l10Walk.l0, if_pos (by omega), if_neg (by decide), hw1, hw2, if_pos (by omega), if_pos (by omega), hc, turned_2 m c (by omega), hw]
    simp only [Option.bind_some]
    rw [if_pos (by simp [cast]; omega)]
    have e : cast acc ++ [((opp c : Nat) : Int)] = cast (acc ++ [opp c]) := by rw [cast_append]; rfl
    rw [e, ih m (i + 1) (acc ++ [opp c]) (by omega) (by omega) (by rw [List.length_append, ha]; rfl)]
    have e2 : (nats s).take (s.size - i) = (nats s).take (s.size - (i + 1)) ++ [c] := by
      rw [show s.size - i = (s.size - (i + 1)) + 1 by omega, List.take_add_one, show s.size - (i + 1) = s.size - 1 - i by omega, hc2]
      rfl
    rw [e2, List.map_append, List.reverse_append, List.append_assoc]
    rfl
theorem spec_loop_many (s : ByteArray) (hs : s.size ≤ 1000) (c : Nat) (hc : c ≤ 57) (kids : List S43) : ∀ (d k b : Nat) (acc : ByteArray), b + d = c → d + 1 ≤ k → acc.size + d * s.size ≤ 100000 →
    ∃ r, spec_l10Walk.l1 k s acc (b : Int) (c : Int) kids = some r ∧ nats r = nats acc ++ (List.replicate d (nats s)).flatten := by
  intro d
  induction d with
  | zero =>
    intro k b acc hb hk ha
    obtain ⟨m, rfl⟩ : ∃ m, k = m + 1 := ⟨k - 1, by omega⟩
    rw [spec_l10Walk.l1, if_neg (by omega)]
    exact ⟨_, rfl, by simp⟩
  | succ d ih =>
    intro k b acc hb hk ha
    obtain ⟨m, rfl⟩ : ∃ m, k = m + 1 := ⟨k - 1, by omega⟩
    rw [Nat.succ_mul] at ha
    rw [spec_l10Walk.l1, if_pos (by omega), if_pos (by omega), show ((b : Int) + 1) % 256 = ((b + 1 : Nat) : Int) by omega]
    obtain ⟨r, hr, hn⟩ := ih m (b + 1) (acc ++ s) (by omega) (by omega) (by rw [ByteArray.size_append]; omega)
    exact ⟨r, hr, by rw [hn, nats_append, List.replicate_succ, List.flatten_cons, List.append_assoc]⟩
theorem spec_walk : ∀ (t : T), t.ok → t.len ≤ 200 → ∀ k, 3 * t.text.length + 300 ≤ k → ∃ s, spec_l10Walk.f k (toS t).f0 (toS t).f1 = some s ∧ nats s = t.walk := by
  intro t
  induction t with
  | leaf c =>
    intro ho hl k hk
    obtain ⟨m, rfl⟩ : ∃ m, k = m + 3 := ⟨k - 3, by omega⟩
    have ho : isLetter c := ho
    have hc := letter_lt ho
    unfold isLetter at ho
    simp only [toS]
    rw [spec_l10Walk.f, if_neg (by omega), if_neg (by omega), spec_l10Walk.j0, if_neg (by simp; omega)]
    have hj : ∀ b, b = false → spec_l10Walk.j2 (m + 1) b (c : Int) [] = some (strOfNums [(c : Int)]) := by
      intro b hb
      subst hb
      rw [spec_l10Walk.j2, if_neg (by decide)]
    refine ⟨strOfNums [(c : Int)], ?_, nats_nums [c] (by simpa using hc)⟩
    split
    · exact hj _ (decide_eq_false (by omega))
    · exact hj _ rfl
  | one c t ih =>
    intro ho hl k hk
    simp only [T.text, List.length_cons] at hk
    obtain ⟨m, rfl⟩ : ∃ m, k = m + 3 := ⟨k - 3, by omega⟩
    have hc : isSign c := ho.1
    have hs := T.sub_len (t := t) hc
    unfold isSign at hc
    obtain ⟨s, h1, h2⟩ := ih ho.2 (by omega) (m + 1) (by omega)
    obtain ⟨s', h1', h2'⟩ := ih ho.2 (by omega) m (by omega)
    have hz := size_of_walk ho.2 h2
    have hz' := size_of_walk ho.2 h2'
    have h0 : (0 : Int) < (([toS t].length : Nat) : Int) := by simp
    have hg : rd_T43 [toS t] 0 = toS t := rfl
    have hlt := fun d => @letter_lt d
    have hwl := T.walk_letters t ho.2
    simp only [toS]
    rw [spec_l10Walk.f, if_neg (show ¬ ((c : Int) = 43) by omega)]
    by_cases c1 : c = 45
    · rw [if_pos (show (c : Int) = 45 by omega), spec_l10Walk.j0, if_pos rfl, if_pos h0, hg, h1]
      simp only [Option.bind_some]
      have e := spec_loop_back s (by omega) [toS t] s.size (m + 1) 0 [] (by omega) (by omega) rfl
      have e0 : ((0 : Nat) : Int) = 0 := rfl
      rw [e0] at e
      rw [show (c : Int) = 45 by omega]
      refine ⟨_, e, ?_⟩
      rw [List.nil_append, Nat.sub_zero, List.take_of_length_le (by rw [nats_length]; exact Nat.le_refl _), h2]
      rw [show cast (List.map opp t.walk).reverse = ((List.map opp t.walk).reverse).map (fun c : Nat => (c : Int)) from rfl, nats_nums]
      · unfold T.walk
        rw [if_pos c1]
        cases t <;> rfl
      · intro d hd
        rw [List.mem_reverse, List.mem_map] at hd
        obtain ⟨e, _, rfl⟩ := hd
        exact letter_lt (turn_letter _)
    · rw [if_neg (show ¬ ((c : Int) = 45) by omega), spec_l10Walk.j0]
      by_cases c2 : c = 64
      · rw [if_pos (by simp; omega), if_pos h0, hg, h1]
        simp only [Option.bind_some]
        have e := spec_loop_turn s (by omega) [toS t] s.size (m + 1) 0 [] (by omega) (by omega) rfl
        have e0 : ((0 : Nat) : Int) = 0 := rfl
        rw [e0] at e
        rw [show (c : Int) = 64 by omega]
        refine ⟨_, e, ?_⟩
        rw [List.nil_append, List.drop_zero, h2]
        rw [show cast (List.map turn t.walk) = (List.map turn t.walk).map (fun c : Nat => (c : Int)) from rfl, nats_nums]
        · conv => rhs; unfold T.walk
          rw [if_neg c1, if_pos c2]
        · intro d hd
          rw [List.mem_map] at hd
          obtain ⟨e, _, rfl⟩ := hd
          exact letter_lt (turn_letter _)
      · rw [if_neg (by simp; omega), if_pos (show (c : Int) ≥ 50 by omega), spec_l10Walk.j2, if_pos (decide_eq_true (show (c : Int) ≤ 57 by omega)), if_pos h0, hg, h1']
        simp only [Option.bind_some]
        have hz0 : (⟨#[]⟩ : ByteArray).size = 0 := rfl
        have hbd : (c - 48) * s'.size ≤ 9 * 200 := Nat.mul_le_mul (by omega) (by omega)
        obtain ⟨r, hr, hn⟩ := spec_loop_many s' (by omega) c (by omega) [toS t] (c - 48) m 48 ⟨#[]⟩ (by omega) (by omega) (by omega)
        refine ⟨r, hr, ?_⟩
        rw [hn, h2']
        conv => rhs; unfold T.walk
        rw [if_neg c1, if_neg c2]
        rfl
  | two a b iha ihb =>
    intro ho hl k hk
    rw [T.text_two] at hk
    obtain ⟨m, rfl⟩ : ∃ m, k = m + 1 := ⟨k - 1, by omega⟩
    have hlen : a.len + b.len ≤ 200 := hl
    obtain ⟨s, h1, h2⟩ := iha ho.1 (by omega) m (by omega)
    obtain ⟨u, h3, h4⟩ := ihb ho.2 (by omega) m (by omega)
    have hz := size_of_walk ho.1 h2
    have hz' := size_of_walk ho.2 h4
    have hg : rd_T43 [toS a, toS b] 0 = toS a := rfl
    have hh : rd_T43 [toS a, toS b] 1 = toS b := rfl
    simp only [toS]
    rw [spec_l10Walk.f, if_pos rfl, if_pos (by simp), hg, h1]
    simp only [Option.bind_some]
    rw [if_pos (by simp), hh, h3]
    simp only [Option.bind_some]
    rw [if_pos (by omega)]
    exact ⟨_, rfl, by rw [nats_append, h2, h4]; rfl⟩
theorem way_of {c : Nat} (h : isLetter c) : ∃ w, w < 4 ∧ c = turns w 101 ∧ impl_wayOf.f (c : Int) = some ((w : Nat) : Int) := by
  unfold isLetter at h
  rcases h with rfl | rfl | rfl | rfl
  · exact ⟨0, by omega, by decide, rfl⟩
  · exact ⟨1, by omega, by decide, rfl⟩
  · exact ⟨2, by omega, by decide, rfl⟩
  · exact ⟨3, by omega, by decide, rfl⟩
theorem way_num (w j : Nat) (hw : w < 4) (hj : j ≤ 2) : Int.tmod (wrap64 ((w : Int) + (j : Int))) 4 = (((w + j) % 4 : Nat) : Int) := by
  rw [show wrap64 ((w : Int) + (j : Int)) = ((w + j : Nat) : Int) by unfold wrap64; omega, Int.tmod_eq_emod_of_nonneg (by omega)]
  rfl
theorem way_byte (w : Nat) (hw : w < 4) : bt (⟨#[101, 110, 119, 115]⟩ : ByteArray) ((w : Nat) : Int) = ((turns w 101 : Nat) : Int) := by
  have : w = 0 ∨ w = 1 ∨ w = 2 ∨ w = 3 := by omega
  rcases this with rfl | rfl | rfl | rfl <;> decide
theorem turns_step (w : Nat) (hw : w < 4) : turns ((w + 1) % 4) 101 = turn (turns w 101) ∧ turns ((w + 2) % 4) 101 = opp (turns w 101) := by
  have : w = 0 ∨ w = 1 ∨ w = 2 ∨ w = 3 := by omega
  rcases this with rfl | rfl | rfl | rfl <;> decide
theorem way_turn {c : Nat} (h : isLetter c) : ∃ x : Int, impl_wayOf.f (c : Int) = some x ∧ 0 ≤ Int.tmod (wrap64 (x + 1)) 4 ∧ Int.tmod (wrap64 (x + 1)) 4 < 4 ∧ 0 ≤ Int.tmod (wrap64 (x + 2)) 4 ∧ Int.tmod (wrap64 (x + 2)) 4 < 4 ∧
    bt (⟨#[101, 110, 119, 115]⟩ : ByteArray) (Int.tmod (wrap64 (x + 1)) 4) = ((turn c : Nat) : Int) ∧ bt (⟨#[101, 110, 119, 115]⟩ : ByteArray) (Int.tmod (wrap64 (x + 2)) 4) = ((opp c : Nat) : Int) := by
  obtain ⟨w, hw, hc, hf⟩ := way_of h
  have e1 := way_num w 1 hw (by decide)
  have e2 := way_num w 2 hw (by decide)
  obtain ⟨t1, t2⟩ := turns_step w hw
  have l1 : (w + 1) % 4 < 4 := Nat.mod_lt _ (by decide)
  have l2 : (w + 2) % 4 < 4 := Nat.mod_lt _ (by decide)
  refine ⟨w, hf, ?_, ?_, ?_, ?_, ?_, ?_⟩
  · exact e1 ▸ Int.natCast_nonneg _
  · exact e1 ▸ Int.ofNat_lt.mpr l1
  · exact e2 ▸ Int.natCast_nonneg _
  · exact e2 ▸ Int.ofNat_lt.mpr l2
  · have := way_byte _ l1
    rw [← e1, t1, ← hc] at this
    exact this
  · have := way_byte _ l2
    rw [← e2, t2, ← hc] at this
    exact this
theorem wrap_natW {n : Nat} (h : n < 4611686018427387904) : wrap64 ((n : Int) + 1) = ((n + 1 : Nat) : Int) := by unfold wrap64; omega
theorem wrap_backW {n i : Nat} (h : n < 4611686018427387904) (hi : i < n) : wrap64 ((wrap64 ((n : Int) - 1)) - (i : Int)) = ((n - 1 - i : Nat) : Int) := by
  rw [show wrap64 ((n : Int) - 1) = (n : Int) - 1 by unfold wrap64; omega]
  unfold wrap64
  omega
theorem set_at {a : List Int} {x y : Int} {b : List Int} {i : Nat} (h : a.length = i) : (a ++ x :: b).set i y = a ++ y :: b := by
  rw [List.set_append_right _ _ (by omega), show i - a.length = 0 by omega]
  rfl
theorem impl_loop_turn (s : ByteArray) (hs : s.size ≤ 1000) (hl : ∀ c ∈ nats s, isLetter c) (kids : List S37) : ∀ (d k i : Nat), i + d = s.size → d + 1 ≤ k →
    impl_term_walk.l0 k s (cast (((nats s).take i).map turn) ++ List.replicate d 0) (s.size : Int) (i : Int) 64 kids = some (strOfNums (cast ((nats s).map turn))) := by
  intro d
  induction d with
  | zero =>
    intro k i hi hk
    obtain ⟨m, rfl⟩ : ∃ m, k = m + 1 := ⟨k - 1, by omega⟩
    rw [impl_term_walk.l0, if_neg (by omega), List.take_of_length_le (by rw [nats_length]; omega)]
    simp
  | succ d ih =>
    intro k i hi hk
    obtain ⟨m, rfl⟩ : ∃ m, k = m + 1 := ⟨k - 1, by omega⟩
    obtain ⟨c, hc, hc2⟩ := bt_nat s i (by omega)
    have g1 : (i : Int) < (s.size : Int) := by omega
    have g2 : (0 : Int) ≤ (i : Int) := by omega
    have hlen : (cast (((nats s).take i).map turn)).length = i := by simp only [cast, List.length_map, List.length_take, nats_length]; omega
    have g3 : (i : Int) < ((cast (((nats s).take i).map turn) ++ List.replicate (d + 1) (0 : Int)).length : Int) := by rw [List.length_append, hlen, List.length_replicate]; omega
    have g4 := wrap_natW (n := i) (by omega)
    have g8 := ih m (i + 1) (by omega) (by omega)
    obtain ⟨x, hwf, w2, w3, _, _, w1, _⟩ := way_turn (hl c (List.mem_of_getElem? hc2))
    rw [impl_term_walk.l0, if_pos g1, if_pos rfl, if_pos g2, if_pos g1, hc, hwf]
    simp only [Option.bind_some]
    rw [if_pos w2, if_pos w3, if_pos g3, w1, g4, Int.toNat_natCast, List.replicate_succ, set_at hlen]
    have e : cast (((nats s).take i).map turn) ++ ((turn c : Nat) : Int) :: List.replicate d 0 = cast (((nats s).take (i + 1)).map turn) ++ List.replicate d 0 := by
      rw [List.take_add_one, hc2, List.map_append, cast_append, List.append_assoc]
      rfl
    rw [e]
    exact g8
theorem impl_loop_back (s : ByteArray) (hs : s.size ≤ 1000) (hl : ∀ c ∈ nats s, isLetter c) (kids : List S37) : ∀ (d k i : Nat), i + d = s.size → d + 1 ≤ k →
    impl_term_walk.l0 k s (List.replicate d 0 ++ cast (((nats s).take i).map opp).reverse) (s.size : Int) (i : Int) 45 kids = some (strOfNums (cast ((nats s).map opp).reverse)) := by
  intro d
  induction d with
  | zero =>
    intro k i hi hk
    obtain ⟨m, rfl⟩ : ∃ m, k = m + 1 := ⟨k - 1, by omega⟩
    rw [impl_term_walk.l0, if_neg (by omega), List.take_of_length_le (by rw [nats_length]; omega)]
    simp
  | succ d ih =>
    intro k i hi hk
    obtain ⟨m, rfl⟩ : ∃ m, k = m + 1 := ⟨k - 1, by omega⟩
    obtain ⟨c, hc, hc2⟩ := bt_nat s i (by omega)
    have g1 : (i : Int) < (s.size : Int) := by omega
    have g2 : (0 : Int) ≤ (i : Int) := by omega
    have g5 : wrap64 ((wrap64 ((s.size : Int) - 1)) - (i : Int)) = ((s.size - 1 - i : Nat) : Int) := wrap_backW (by omega) (by omega)
    have g6 : (0 : Int) ≤ ((s.size - 1 - i : Nat) : Int) := by omega
    have g7 : s.size - 1 - i = d := by omega
    have hlen : (cast (((nats s).take i).map opp).reverse).length = i := by simp only [cast, List.length_map, List.length_reverse, List.length_take, nats_length]; omega
    have g3 : ((s.size - 1 - i : Nat) : Int) < ((List.replicate (d + 1) (0 : Int) ++ cast (((nats s).take i).map opp).reverse).length : Int) := by rw [List.length_append, hlen, List.length_replicate]; omega
    have g4 := wrap_natW (n := i) (by omega)
    have g8 := ih m (i + 1) (by omega) (by omega)
    obtain ⟨x, hwf, _, _, w2, w3, _, w1⟩ := way_turn (hl c (List.mem_of_getElem? hc2))
    rw [impl_term_walk.l0, if_pos g1, if_neg (by decide), if_pos g2, if_pos g1, hc, hwf]
    simp only [Option.bind_some]
    rw [if_pos w2, if_pos w3, g5, if_pos g6, if_pos g3, w1, g4, Int.toNat_natCast]
    have e : (List.replicate (d + 1) (0 : Int) ++ cast (((nats s).take i).map opp).reverse).set (s.size - 1 - i) ((opp c : Nat) : Int) = List.replicate d 0 ++ cast (((nats s).take (i + 1)).map opp).reverse := by
      rw [List.replicate_succ', List.append_assoc, List.singleton_append, set_at (by rw [List.length_replicate, g7]), List.take_add_one, hc2, List.map_append, List.reverse_append, cast_append]
      rfl
    rw [e]
    exact g8
theorem nats_repeat (s : ByteArray) : ∀ n, nats (⟨(Lib.repeatL s.data.toList n).toArray⟩ : ByteArray) = (List.replicate n (nats s)).flatten := by
  intro n
  induction n with
  | zero => rfl
  | succ n ih =>
    rw [List.replicate_succ, List.flatten_cons, ← ih]
    unfold nats
    simp [Lib.repeatL]
theorem impl_walk : ∀ (t : T), t.ok → t.len ≤ 200 → ∀ k, t.text.length + 300 ≤ k → ∃ s, impl_term_walk.f k (toI t).f0 (toI t).f1 = some s ∧ nats s = t.walk := by
  intro t
  induction t with
  | leaf c =>
    intro ho hl k hk
    obtain ⟨m, rfl⟩ : ∃ m, k = m + 1 := ⟨k - 1, by omega⟩
    have ho : isLetter c := ho
    simp only [toI]
    rw [impl_term_walk.f, if_pos (by rfl)]
    exact ⟨_, rfl, nats_nums [c] (by simpa using letter_lt ho)⟩
  | one c t ih =>
    intro ho hl k hk
    simp only [T.text, List.length_cons] at hk
    obtain ⟨m, rfl⟩ : ∃ m, k = m + 2 := ⟨k - 2, by omega⟩
    have hc : isSign c := ho.1
    have hs := T.sub_len (t := t) hc
    unfold isSign at hc
    obtain ⟨s, h1, h2⟩ := ih ho.2 (by omega) (m + 1) (by omega)
    have hz := size_of_walk ho.2 h2
    have hlt := T.walk_letters t ho.2
    have h0 : (0 : Int) < (([toI t].length : Nat) : Int) := by simp
    have hg : rd_T37 [toI t] 0 = toI t := rfl
    have hsl : ∀ c ∈ nats s, isLetter c := by rw [h2]; exact hlt
    have hmk : ∀ b, b = false → impl_term_walk.j0 (m + 1) s b (c : Int) [toI t] = impl_term_walk.l0 m s (List.replicate s.size 0) (s.size : Int) 0 (c : Int) [toI t] := by
      intro b hb
      subst hb
      rw [impl_term_walk.j0, if_neg (by decide), if_pos (by omega), if_pos (by omega), Int.toNat_natCast]
    simp only [toI]
    rw [impl_term_walk.f, if_neg (by simp), if_neg (by simp), if_pos h0, hg, h1]
    simp only [Option.bind_some]
    by_cases c1 : c = 45
    · rw [if_neg (show ¬ (c : Int) ≥ 50 by omega), hmk _ rfl]
      have e := impl_loop_back s (by omega) hsl [toI t] s.size m 0 (by omega) (by omega)
      have e0 : ((0 : Nat) : Int) = 0 := rfl
      rw [e0, List.take_zero, List.map_nil] at e
      have e2 : List.replicate s.size (0 : Int) ++ cast ([] : List Nat).reverse = List.replicate s.size 0 := by rw [show cast ([] : List Nat).reverse = [] from rfl, List.append_nil]
      rw [e2] at e
      rw [show (c : Int) = 45 by omega]
      refine ⟨_, e, ?_⟩
      rw [h2, show cast (List.map opp t.walk).reverse = ((List.map opp t.walk).reverse).map (fun c : Nat => (c : Int)) from rfl, nats_nums]
      · conv => rhs; unfold T.walk
        rw [if_pos c1]
      · intro d hd
        rw [List.mem_reverse, List.mem_map] at hd
        obtain ⟨e, _, rfl⟩ := hd
        exact letter_lt (turn_letter _)
    · by_cases c2 : c = 64
      · rw [if_pos (show (c : Int) ≥ 50 by omega), hmk _ (decide_eq_false (by omega))]
        have e := impl_loop_turn s (by omega) hsl [toI t] s.size m 0 (by omega) (by omega)
        have e0 : ((0 : Nat) : Int) = 0 := rfl
        rw [e0, List.take_zero, List.map_nil] at e
        have e2 : cast ([] : List Nat) ++ List.replicate s.size (0 : Int) = List.replicate s.size 0 := rfl
        rw [e2] at e
        rw [show (c : Int) = 64 by omega]
        refine ⟨_, e, ?_⟩
        rw [h2, show cast (List.map turn t.walk) = (List.map turn t.walk).map (fun c : Nat => (c : Int)) from rfl, nats_nums]
        · conv => rhs; unfold T.walk
          rw [if_neg c1, if_pos c2]
        · intro d hd
          rw [List.mem_map] at hd
          obtain ⟨e, _, rfl⟩ := hd
          exact letter_lt (turn_letter _)
      · rw [if_pos (show (c : Int) ≥ 50 by omega), impl_term_walk.j0, if_pos (decide_eq_true (show (c : Int) ≤ 57 by omega)), show ((c : Int) - 48) % 256 = ((c - 48 : Nat) : Int) by omega]
        unfold strings_Repeat.f
        rw [if_pos ⟨by omega, by omega, by omega⟩]
        refine ⟨_, rfl, ?_⟩
        rw [Int.toNat_natCast, nats_repeat, h2]
        conv => rhs; unfold T.walk
        rw [if_neg c1, if_neg c2]
  | two a b iha ihb =>
    intro ho hl k hk
    rw [T.text_two] at hk
    obtain ⟨m, rfl⟩ : ∃ m, k = m + 1 := ⟨k - 1, by omega⟩
    have hlen : a.len + b.len ≤ 200 := hl
    obtain ⟨s, h1, h2⟩ := iha ho.1 (by omega) m (by omega)
    obtain ⟨u, h3, h4⟩ := ihb ho.2 (by omega) m (by omega)
    have hz := size_of_walk ho.1 h2
    have hz' := size_of_walk ho.2 h4
    have hg : rd_T37 [toI a, toI b] 0 = toI a := rfl
    have hh : rd_T37 [toI a, toI b] 1 = toI b := rfl
    simp only [toI]
    rw [impl_term_walk.f, if_neg (by simp), if_pos (by rfl), if_pos (by simp), hg, h1]
    simp only [Option.bind_some]
    rw [if_pos (by simp), hh, h3]
    simp only [Option.bind_some]
    rw [if_pos (by omega)]
    exact ⟨_, rfl, by rw [nats_append, h2, h4]; rfl⟩
theorem walk_spec (s : ByteArray) (k : Nat) (hk : 600 ≤ k) : match short s with
    | none => spec_TermWalk.f k s = some (⟨#[]⟩, false)
    | some t => ∃ r, spec_TermWalk.f k s = some (r, true) ∧ nats r = t.walk := by
  have h := spec_short s k (by omega)
  unfold spec_TermWalk.f
  cases e : short s with
  | none =>
    rw [e] at h
    obtain ⟨a, b, h⟩ := h
    rw [h]
    rfl
  | some t =>
    rw [e] at h
    simp only at h
    obtain ⟨ho, hl, _, _, hx⟩ := short_some e
    obtain ⟨r, h1, h2⟩ := spec_walk t ho hl k (by omega)
    rw [h]
    simp only [Option.bind_some, if_true]
    rw [h1]
    exact ⟨r, rfl, h2⟩
theorem walk_impl (s : ByteArray) (k : Nat) (hk : 600 ≤ k) : match short s with
    | none => impl_TermWalk.f k s = some (⟨#[]⟩, false)
    | some t => ∃ r, impl_TermWalk.f k s = some (r, true) ∧ nats r = t.walk := by
  have h := impl_short s k (by omega)
  unfold impl_TermWalk.f
  cases e : short s with
  | none =>
    rw [e] at h
    obtain ⟨a, b, h⟩ := h
    rw [h]
    rfl
  | some t =>
    rw [e] at h
    simp only at h
    obtain ⟨ho, hl, _, _, hx⟩ := short_some e
    obtain ⟨r, h1, h2⟩ := impl_walk t ho hl k (by omega)
    rw [h]
    simp only [Option.bind_some, if_true]
    rw [h1]
    exact ⟨r, rfl, h2⟩
theorem short_is {s : ByteArray} {t : T} (h : short s = some t) : short s = some t ∧ isTerm (nats s) = some t := by
  refine ⟨h, ?_⟩
  unfold short at h
  split at h
  · obtain ⟨u, h1, h2⟩ := Option.bind_eq_some_iff.mp h
    split at h2
    · injection h2 with h2
      rw [h1, h2]
    · simp at h2
  · simp at h
/-- A sign in front. -/
theorem short_front {s : ByteArray} {t : T} (h : short s = some t) (c : UInt8) (hc : isSign c.toNat) :
    short ((⟨#[c]⟩ : ByteArray) ++ s) = if s.size ≤ 59 ∧ (T.one c.toNat t).len ≤ 200 then some (.one c.toNat t) else none := by
  obtain ⟨ho, hl, hn, hs, hx⟩ := short_some h
  have z : (⟨#[c]⟩ : ByteArray).size = 1 := rfl
  have n1 : nats (⟨#[c]⟩ : ByteArray) = [c.toNat] := rfl
  unfold short
  rw [ByteArray.size_append, z, nats_append, n1, hn, show [c.toNat] ++ t.text = (T.one c.toNat t).text from rfl, isTerm_text (show (T.one c.toNat t).ok from ⟨hc, ho⟩)]
  simp only [Option.bind_some]
  by_cases h1 : s.size ≤ 59
  · rw [if_pos (by omega)]
    by_cases h2 : (T.one c.toNat t).len ≤ 200
    · rw [if_pos h2, if_pos ⟨h1, h2⟩]
    · rw [if_neg h2, if_neg (fun h => h2 h.2)]
  · rw [if_neg (by omega), if_neg (fun h => h1 h.1)]
theorem length_impl (s : ByteArray) (k : Nat) (hk : 120 ≤ k) : impl_TermLength.f k s = some (match short s with | none => (0, false) | some t => ((t.len : Int), true)) := by
  have h1 := impl_short s k hk
  unfold impl_TermLength.f
  cases e : short s with
  | none =>
    rw [e] at h1
    obtain ⟨a, b, h1⟩ := h1
    rw [h1]
    rfl
  | some t =>
    rw [e] at h1
    simp only at h1
    obtain ⟨ho, hl, _, _, hx⟩ := short_some e
    rw [h1]
    simp only [Option.bind_some, if_true]
    rw [impl_long t ho k (by omega)]
    simp only [Option.bind_some]
    rw [show min 201 t.len = t.len by omega]
/-! ### how often a walk turns -/
def tcount (f : Nat → Nat) : List Nat → Nat
  | p :: c :: l => (if c = f p then 1 else 0) + tcount f (c :: l)
  | _ => 0
theorem tcount_le (f : Nat → Nat) : ∀ l, tcount f l ≤ l.length
  | [] => by simp [tcount]
  | [p] => by simp [tcount]
  | p :: c :: l => by
    have := tcount_le f (c :: l)
    rw [tcount, List.length_cons]
    split <;> omega
def rgt (p : Nat) : Nat := turn (opp p)
theorem turn_apart {p : Nat} (h : isLetter p) : turn p ≠ opp p ∧ turn p ≠ rgt p ∧ opp p ≠ rgt p := by
  unfold isLetter at h
  rcases h with rfl | rfl | rfl | rfl <;> decide
theorem cnt_ar {A B C x y z n : Nat} (h : A + B + C < n) (hx : x + y + z ≤ 1) : (x + A) + (y + B) + (z + C) < n + 1 := by omega
theorem tcount_sum : ∀ (l : List Nat), (∀ c ∈ l, isLetter c) → l ≠ [] → tcount turn l + tcount rgt l + tcount opp l < l.length
  | [], _, h => absurd rfl h
  | [p], _, _ => by simp [tcount]
  | p :: c :: l, h, _ => by
    have h1 := tcount_sum (c :: l) (fun x hx => h x (List.mem_cons_of_mem _ hx)) (by simp)
    have h2 := turn_apart (h p List.mem_cons_self)
    simp only [tcount]
    refine cnt_ar h1 ?_
    by_cases a : c = turn p
    · rw [if_pos a, if_neg (fun e => h2.2.1 (a.symm.trans e)), if_neg (fun e => h2.1 (a.symm.trans e))]
      decide
    · rw [if_neg a]
      by_cases b : c = rgt p
      · rw [if_pos b, if_neg (fun e => h2.2.2 (e.symm.trans b))]
        decide
      · rw [if_neg b]
        split <;> decide
theorem tcount_end (f : Nat → Nat) (a b : Nat) : ∀ l, tcount f (l ++ [a, b]) = tcount f (l ++ [a]) + if b = f a then 1 else 0
  | [] => by simp [tcount]
  | [x] => by simp [tcount]
  | x :: y :: l => by
    have := tcount_end f a b (y :: l)
    rw [List.cons_append, List.cons_append, List.cons_append, List.cons_append, tcount, tcount]
    rw [List.cons_append, List.cons_append] at this
    omega
theorem tcount_back (f g : Nat → Nat) (h : ∀ x y, isLetter x → isLetter y → (opp x = f (opp y) ↔ y = g x)) : ∀ l, (∀ c ∈ l, isLetter c) → tcount f ((l.map opp).reverse) = tcount g l
  | [], _ => rfl
  | [x], _ => rfl
  | x :: y :: l, hl => by
    have ih := tcount_back f g h (y :: l) (fun c hc => hl c (List.mem_cons_of_mem _ hc))
    have hx := h x y (hl x List.mem_cons_self) (hl y (by simp))
    have e : (((x :: y :: l).map opp).reverse) = (l.map opp).reverse ++ [opp y, opp x] := by simp
    have e2 : (((y :: l).map opp).reverse) = (l.map opp).reverse ++ [opp y] := by simp
    rw [e, tcount_end, ← e2, ih, tcount]
    by_cases hc : y = g x
    · rw [if_pos hc, if_pos (hx.mpr hc)]
      omega
    · rw [if_neg hc, if_neg (fun q => hc (hx.mp q))]
      omega
theorem back_pairs : ∀ x y, isLetter x → isLetter y → (opp x = turn (opp y) ↔ y = rgt x) ∧ (opp x = rgt (opp y) ↔ y = turn x) ∧ (opp x = opp (opp y) ↔ y = opp x) := by
  intro x y hx hy
  unfold isLetter at hx hy
  rcases hx with rfl | rfl | rfl | rfl <;> rcases hy with rfl | rfl | rfl | rfl <;> decide
theorem way_diff : ∀ x : Nat, x < 4 → ∀ y : Nat, y < 4 → (Int.tmod (wrap64 (wrap64 ((x : Int) - (y : Int)) + 4)) 4 = 0 ∨ Int.tmod (wrap64 (wrap64 ((x : Int) - (y : Int)) + 4)) 4 = 1 ∨ Int.tmod (wrap64 (wrap64 ((x : Int) - (y : Int)) + 4)) 4 = 2 ∨ Int.tmod (wrap64 (wrap64 ((x : Int) - (y : Int)) + 4)) 4 = 3) ∧
    (Int.tmod (wrap64 (wrap64 ((x : Int) - (y : Int)) + 4)) 4 = 1 ↔ turns x 101 = turn (turns y 101)) ∧ (Int.tmod (wrap64 (wrap64 ((x : Int) - (y : Int)) + 4)) 4 = 2 ↔ turns x 101 = opp (turns y 101)) ∧ (Int.tmod (wrap64 (wrap64 ((x : Int) - (y : Int)) + 4)) 4 = 3 ↔ turns x 101 = rgt (turns y 101)) := by decide +kernel
theorem wrap_one {n c : Nat} (h : n + c ≤ 5000) : wrap64 ((n : Int) + 1) = ((n + 1 : Nat) : Int) := by unfold wrap64; omega
theorem iturns_l (s : ByteArray) (hs : s.size ≤ 1000) (hl : ∀ c ∈ nats s, isLetter c) : ∀ (d k i n0 n1 n2 n3 : Nat), i + 1 + d = s.size → d + 1 ≤ k → n0 ≤ i → n1 ≤ i → n2 ≤ i → n3 ≤ i →
    impl_TermTurns.l0 k s (n0 : Int) (n1 : Int) (n2 : Int) (n3 : Int) ((i + 1 : Nat) : Int) = some (((n1 + tcount turn ((nats s).drop i) : Nat) : Int), ((n3 + tcount rgt ((nats s).drop i) : Nat) : Int), ((n2 + tcount opp ((nats s).drop i) : Nat) : Int), true) := by
  intro d
  induction d with
  | zero =>
    intro k i n0 n1 n2 n3 hi hk h0 h1 h2 h3
    obtain ⟨m, rfl⟩ : ∃ m, k = m + 1 := ⟨k - 1, by omega⟩
    obtain ⟨c, _, hc⟩ := bt_nat s i (by omega)
    have e : (nats s).drop i = [c] := by
      rw [drop_at hc, List.drop_eq_nil_of_le (by rw [nats_length]; omega)]
    rw [impl_TermTurns.l0, if_neg (by omega), e]
    rfl
  | succ d ih =>
    intro k i n0 n1 n2 n3 hi hk h0 h1 h2 h3
    obtain ⟨m, rfl⟩ : ∃ m, k = m + 1 := ⟨k - 1, by omega⟩
    have z1 : i < s.size := by omega
    have z2 : i + 1 < s.size := by omega
    have wi : wrap64 (((i + 1 : Nat) : Int) - 1) = (i : Int) := by unfold wrap64; omega
    have wj : wrap64 (((i + 1 : Nat) : Int) + 1) = ((i + 1 + 1 : Nat) : Int) := by unfold wrap64; omega
    have i0 := ih m (i + 1) (n0 + 1) n1 n2 n3 (by omega) (by omega) (by omega) (by omega) (by omega) (by omega)
    have i1 := ih m (i + 1) n0 (n1 + 1) n2 n3 (by omega) (by omega) (by omega) (by omega) (by omega) (by omega)
    have i2 := ih m (i + 1) n0 n1 (n2 + 1) n3 (by omega) (by omega) (by omega) (by omega) (by omega) (by omega)
    have i3 := ih m (i + 1) n0 n1 n2 (n3 + 1) (by omega) (by omega) (by omega) (by omega) (by omega) (by omega)
    have q0 : wrap64 ((n0 : Int) + 1) = ((n0 + 1 : Nat) : Int) := by unfold wrap64; omega
    have q1 : wrap64 ((n1 : Int) + 1) = ((n1 + 1 : Nat) : Int) := by unfold wrap64; omega
    have q2 : wrap64 ((n2 : Int) + 1) = ((n2 + 1 : Nat) : Int) := by unfold wrap64; omega
    have q3 : wrap64 ((n3 : Int) + 1) = ((n3 + 1 : Nat) : Int) := by unfold wrap64; omega
    have p1 : (((i + 1 : Nat) : Int)) < (s.size : Int) := by omega
    have p2 : (0 : Int) ≤ ((i + 1 : Nat) : Int) := by omega
    have p3 : (0 : Int) ≤ (i : Int) := by omega
    have p4 : (i : Int) < (s.size : Int) := by omega
    clear ih
    obtain ⟨p, hp, hp2⟩ := bt_nat s i z1
    obtain ⟨c, hc, hc2⟩ := bt_nat s (i + 1) z2
    obtain ⟨x, hx, hx2, hx3⟩ := way_of (hl c (List.mem_of_getElem? hc2))
    obtain ⟨y, hy, hy2, hy3⟩ := way_of (hl p (List.mem_of_getElem? hp2))
    obtain ⟨w0, w1, w2, w3⟩ := way_diff x hx y hy
    rw [← hx2, ← hy2] at w1 w2 w3
    have ha := turn_apart (hl p (List.mem_of_getElem? hp2))
    rw [drop_at hp2, drop_at hc2, impl_TermTurns.l0, if_pos p1, if_pos p2, wi, if_pos p3, if_pos p4, hc, hp, hx3, hy3, wj, q0, q1, q2, q3]
    simp only [Option.bind_some, tcount]
    rw [← drop_at hc2]
    rcases w0 with w | w | w | w
    · have c1 : ¬ c = turn p := fun e => by rw [w1.mpr e] at w; exact absurd w (by decide)
      have c2 : ¬ c = opp p := fun e => by rw [w2.mpr e] at w; exact absurd w (by decide)
      have c3 : ¬ c = rgt p := fun e => by rw [w3.mpr e] at w; exact absurd w (by decide)
      rw [if_pos w, i0, if_neg c1, if_neg c2, if_neg c3]
      simp
    · have c1 : c = turn p := w1.mp w
      have c2 : ¬ c = opp p := fun e => ha.1 (c1.symm.trans e)
      have c3 : ¬ c = rgt p := fun e => ha.2.1 (c1.symm.trans e)
      rw [if_neg (by rw [w]; decide), if_pos w, i1, if_pos c1, if_neg c2, if_neg c3]
      simp only [Nat.zero_add, Nat.add_assoc]
    · have c2 : c = opp p := w2.mp w
      have c1 : ¬ c = turn p := fun e => ha.1 (e.symm.trans c2)
      have c3 : ¬ c = rgt p := fun e => ha.2.2 (c2.symm.trans e)
      rw [if_neg (by rw [w]; decide), if_neg (by rw [w]; decide), if_pos w, i2, if_neg c1, if_pos c2, if_neg c3]
      simp only [Nat.zero_add, Nat.add_assoc]
    · have c3 : c = rgt p := w3.mp w
      have c1 : ¬ c = turn p := fun e => ha.2.1 (e.symm.trans c3)
      have c2 : ¬ c = opp p := fun e => ha.2.2 (e.symm.trans c3)
      rw [if_neg (by rw [w]; decide), if_neg (by rw [w]; decide), if_neg (by rw [w]; decide), if_pos w, i3, if_neg c1, if_neg c2, if_pos c3]
      simp only [Nat.zero_add, Nat.add_assoc]
def turnsOf (s : ByteArray) : Int × Int × Int × Bool := match short s with
  | none => (0, 0, 0, false)
  | some t => ((tcount turn t.walk : Int), (tcount rgt t.walk : Int), (tcount opp t.walk : Int), true)
theorem walk_ne {t : T} (ho : t.ok) : t.walk ≠ [] := by
  have h1 := T.walk_len t ho
  have h2 := T.len_pos ho
  intro h
  rw [h, List.length_nil] at h1
  exact absurd h2 (by rw [← h1]; decide)
theorem turns_impl (s : ByteArray) (k : Nat) (hk : 900 ≤ k) : impl_TermTurns.f k s = some (turnsOf s) := by
  have h := walk_impl s k (by omega)
  unfold impl_TermTurns.f turnsOf
  cases e : short s with
  | none =>
    rw [e] at h
    simp only at h
    rw [h, Option.bind_some, if_neg (by decide)]
  | some t =>
    rw [e] at h
    obtain ⟨r, h1, h2⟩ := h
    obtain ⟨ho, hlen, hn, hs60, hx⟩ := short_some e
    have hsz := size_of_walk ho h2
    have hp := T.len_pos ho
    have hlt : ∀ c ∈ nats r, isLetter c := by rw [h2]; exact T.walk_letters t ho
    rw [h1, Option.bind_some, if_pos rfl]
    have key := iturns_l r (by omega) hlt (r.size - 1) k 0 0 0 0 0 (by omega) (by omega) (by omega) (by omega) (by omega) (by omega)
    rw [List.drop_zero, h2] at key
    simp only [Nat.zero_add] at key
    exact key
theorem sturns_l (s : ByteArray) (b : Bool) (hs : s.size ≤ 1000) (hl : ∀ c ∈ nats s, isLetter c) : ∀ (d k i n1 n3 n2 : Nat), i + 1 + d = s.size → d + 10 ≤ k → n1 ≤ i → n2 ≤ i → n3 ≤ i →
    spec_TermTurns.l0 k s b (n1 : Int) (n3 : Int) (n2 : Int) ((i + 1 : Nat) : Int) = some (((n1 + tcount turn ((nats s).drop i) : Nat) : Int), ((n3 + tcount rgt ((nats s).drop i) : Nat) : Int), ((n2 + tcount opp ((nats s).drop i) : Nat) : Int), b) := by
  intro d
  induction d with
  | zero =>
    intro k i n1 n3 n2 hi hk h1 h2 h3
    obtain ⟨m, rfl⟩ : ∃ m, k = m + 1 := ⟨k - 1, by omega⟩
    obtain ⟨c, _, hc⟩ := bt_nat s i (by omega)
    have e : (nats s).drop i = [c] := by
      rw [drop_at hc, List.drop_eq_nil_of_le (by rw [nats_length]; omega)]
    rw [spec_TermTurns.l0, if_neg (by omega), e]
    rfl
  | succ d ih =>
    intro k i n1 n3 n2 hi hk h1 h2 h3
    obtain ⟨m, rfl⟩ : ∃ m, k = m + 1 := ⟨k - 1, by omega⟩
    have z1 : i < s.size := by omega
    have z2 : i + 1 < s.size := by omega
    have wi : wrap64 (((i + 1 : Nat) : Int) - 1) = (i : Int) := by unfold wrap64; omega
    have wj : wrap64 (((i + 1 : Nat) : Int) + 1) = ((i + 1 + 1 : Nat) : Int) := by unfold wrap64; omega
    have i0 := ih m (i + 1) n1 n3 n2 (by omega) (by omega) (by omega) (by omega) (by omega)
    have i1 := ih m (i + 1) (n1 + 1) n3 n2 (by omega) (by omega) (by omega) (by omega) (by omega)
    have i2 := ih m (i + 1) n1 n3 (n2 + 1) (by omega) (by omega) (by omega) (by omega) (by omega)
    have i3 := ih m (i + 1) n1 (n3 + 1) n2 (by omega) (by omega) (by omega) (by omega) (by omega)
    have q1 : wrap64 ((n1 : Int) + 1) = ((n1 + 1 : Nat) : Int) := by unfold wrap64; omega
    have q2 : wrap64 ((n2 : Int) + 1) = ((n2 + 1 : Nat) : Int) := by unfold wrap64; omega
    have q3 : wrap64 ((n3 : Int) + 1) = ((n3 + 1 : Nat) : Int) := by unfold wrap64; omega
    have p1 : (((i + 1 : Nat) : Int)) < (s.size : Int) := by omega
    have p2 : (0 : Int) ≤ ((i + 1 : Nat) : Int) := by omega
    have p3 : (0 : Int) ≤ (i : Int) := by omega
    have p4 : (i : Int) < (s.size : Int) := by omega
    have m4 : 4 ≤ m := by omega
    clear ih
    obtain ⟨p, hp, hp2⟩ := bt_nat s i z1
    obtain ⟨c, hc, hc2⟩ := bt_nat s (i + 1) z2
    have ha := turn_apart (hl p (List.mem_of_getElem? hp2))
    have t1 := turned_1 m p m4
    have t2 := turned_2 m p m4
    have t3 : spec_l10Turned.f m (p : Int) 3 = some ((rgt p : Nat) : Int) := turned_3 m p m4
    have nc : ∀ a b : Nat, ((a : Int) = (b : Int)) ↔ a = b := fun a b => Int.ofNat_inj
    rw [drop_at hp2, drop_at hc2, spec_TermTurns.l0, if_pos p1, if_pos p2, wi, if_pos p3, if_pos p4, hc, hp, t1, t2, t3, wj, q1, q2, q3]
    simp only [Option.bind_some, tcount]
    rw [← drop_at hc2]
    by_cases c1 : c = turn p
    · have c2 : ¬ c = opp p := fun e => ha.1 (c1.symm.trans e)
      have c3 : ¬ c = rgt p := fun e => ha.2.1 (c1.symm.trans e)
      rw [if_pos ((nc _ _).mpr c1), i1]
      rw [if_pos c1, if_neg c2, if_neg c3]
      simp only [Nat.zero_add, Nat.add_assoc]
    · rw [if_neg (fun e => c1 ((nc _ _).mp e))]
      by_cases c2 : c = opp p
      · have c3 : ¬ c = rgt p := fun e => ha.2.2 (c2.symm.trans e)
        rw [if_pos ((nc _ _).mpr c2), i2]
        rw [if_neg c1, if_pos c2, if_neg c3]
        simp only [Nat.zero_add, Nat.add_assoc]
      · rw [if_neg (fun e => c2 ((nc _ _).mp e))]
        by_cases c3 : c = rgt p
        · rw [if_pos ((nc _ _).mpr c3), i3]
          rw [if_neg c1, if_neg c2, if_pos c3]
          simp only [Nat.zero_add, Nat.add_assoc]
        · rw [if_neg (fun e => c3 ((nc _ _).mp e)), i0]
          rw [if_neg c1, if_neg c2, if_neg c3]
          simp
theorem turns_spec (s : ByteArray) (k : Nat) (hk : 900 ≤ k) : spec_TermTurns.f k s = some (turnsOf s) := by
  have h := walk_spec s k (by omega)
  unfold spec_TermTurns.f turnsOf
  cases e : short s with
  | none =>
    rw [e] at h
    simp only at h
    obtain ⟨m, rfl⟩ : ∃ m, k = m + 1 := ⟨k - 1, by omega⟩
    rw [h, Option.bind_some, spec_TermTurns.l0, if_neg (by decide)]
  | some t =>
    rw [e] at h
    obtain ⟨r, h1, h2⟩ := h
    obtain ⟨ho, hlen, hn, hs60, hx⟩ := short_some e
    have hsz := size_of_walk ho h2
    have hp := T.len_pos ho
    have hlt : ∀ c ∈ nats r, isLetter c := by rw [h2]; exact T.walk_letters t ho
    rw [h1, Option.bind_some]
    have key := sturns_l r true (by omega) hlt (r.size - 1) k 0 0 0 0 (by omega) (by omega) (by omega) (by omega) (by omega)
    rw [List.drop_zero, h2] at key
    simp only [Nat.zero_add] at key
    exact key
/-! ### the reader of draws -/
theorem wrap_id {x : Int} (h0 : -9223372036854775808 ≤ x) (h1 : x ≤ 9223372036854775807) : wrap64 x = x := by unfold wrap64; omega
theorem wf_u8 {l : List Int} (h : ∀ x ∈ l, (Lit.int .u8 x).wf = true) : ∀ x ∈ l, 0 ≤ x ∧ x ≤ 255 := by
  intro x hx
  have := h x hx
  simp [Lit.wf, IntKind.min, IntKind.max, IntKind.bits, IntKind.signed] at this
  omega
theorem rd_u8 {b : List Int} (hb : ∀ x ∈ b, 0 ≤ x ∧ x ≤ 255) (i : Int) (h0 : 0 ≤ i) (h1 : i < b.length) : 0 ≤ rd b i ∧ rd b i ≤ 255 := by
  have hl : i.toNat < b.length := by omega
  have : rd b i = b[i.toNat] := by
    unfold rd
    rw [List.getD_eq_getElem?_getD, List.getElem?_eq_getElem hl]
    rfl
  rw [this]
  exact hb _ (List.getElem_mem hl)
theorem xor_i64 (a b : Nat) (ha : a < 4611686018427387904) (hb : b < 4611686018427387904) : Go.bits .xor .i64 (a : Int) (b : Int) = ((a ^^^ b : Nat) : Int) := by
  have hx : a ^^^ b < 2 ^ 62 := Nat.xor_lt_two_pow (by omega) (by omega)
  have h1 : (BitVec.ofInt 64 (a : Int)).toNat = a := by
    rw [BitVec.ofInt_natCast, BitVec.toNat_ofNat]; exact Nat.mod_eq_of_lt (by omega)
  have h2 : (BitVec.ofInt 64 (b : Int)).toNat = b := by
    rw [BitVec.ofInt_natCast, BitVec.toNat_ofNat]; exact Nat.mod_eq_of_lt (by omega)
  show IntKind.i64.wrap ((BitVec.ofInt 64 (a : Int) ^^^ BitVec.ofInt 64 (b : Int)).toNat : Int) = _
  rw [BitVec.toNat_xor, h1, h2]
  generalize a ^^^ b = c at hx
  simp [IntKind.wrap, IntKind.bits, IntKind.signed]
  omega
theorem tmod_in {x n : Int} (hx : 0 ≤ x) (hn : 1 ≤ n) : 0 ≤ Int.tmod x n ∧ Int.tmod x n < n := by
  rw [Int.tmod_eq_emod_of_nonneg hx]
  exact ⟨Int.emod_nonneg _ (by omega), Int.emod_lt_of_pos _ (by omega)⟩
theorem tdiv_in {x n : Int} (hx : 0 ≤ x) (hn : 1 ≤ n) : 0 ≤ Int.tdiv x n ∧ Int.tdiv x n ≤ x := by
  rw [Int.tdiv_eq_ediv_of_nonneg hx]
  exact ⟨Int.ediv_nonneg hx (by omega), Int.ediv_le_self _ hx⟩
theorem pick_tells (b : List Int) (hb : ∀ x ∈ b, 0 ≤ x ∧ x ≤ 255) (hl : b.length ≤ 2000) (p n : Int) (hp : 0 ≤ p) (hp2 : p ≤ 1000000) (hn : 1 ≤ n) (hn2 : n ≤ 1000000) (k : Nat) (hk : 1 ≤ k) :
    ∃ r, spec_l6Rd_pick.f k b p n = some (r, p + 1) ∧ 0 ≤ r ∧ r < n := by
  obtain ⟨m, rfl⟩ : ∃ m, k = m + 1 := ⟨k - 1, by omega⟩
  unfold spec_l6Rd_pick.f
  have e0 : wrap64 (p + 1) = p + 1 := wrap_id (by omega) (by omega)
  have e1 : wrap64 (p + 1 - 1) = p := by rw [show p + 1 - 1 = p by omega]; exact wrap_id (by omega) (by omega)
  rw [if_neg (by omega), spec_l6Rd_pick.j0, e0, e1]
  by_cases hz : b.length = 0
  · rw [if_pos (by simp [hz])]
    exact ⟨0, rfl, by omega, by omega⟩
  · have hz2 : ((b.length : Int) == 0) = false := by rw [beq_eq_false_iff_ne]; omega
    rw [hz2, if_neg (by decide)]
    by_cases h : p < b.length
    · rw [if_pos h, if_pos hp, if_neg (by omega)]
      have hr := rd_u8 hb p hp h
      rw [wrap_id (x := rd b p) (by omega) (by omega)]
      exact ⟨_, rfl, tmod_in hr.1 hn⟩
    · rw [if_neg h, if_neg (by omega)]
      have hlen : (1 : Int) ≤ b.length := by omega
      have q1 := tmod_in hp hlen
      have e7 : wrap64 (p * 7) = p * 7 := wrap_id (by omega) (by omega)
      have e8 : wrap64 (p * 7 + 3) = p * 7 + 3 := wrap_id (by omega) (by omega)
      rw [e7, e8]
      have q2 := tmod_in (show (0 : Int) ≤ p * 7 + 3 by omega) hlen
      rw [if_pos q1.1, if_pos q1.2, if_pos q2.1, if_pos q2.2, if_neg (by omega)]
      have r1 := rd_u8 hb _ q1.1 q1.2
      have r2 := rd_u8 hb _ q2.1 q2.2
      have q3 := tdiv_in hp hlen
      generalize rd b (Int.tmod p b.length) = x1 at r1
      generalize rd b (Int.tmod (p * 7 + 3) b.length) = x2 at r2
      generalize Int.tdiv p b.length = x3 at q3
      rw [wrap_id (x := x1) (by omega) (by omega), wrap_id (x := x2) (by omega) (by omega), wrap_id (x := x3) (by omega) (by omega), wrap_id (x := x1 * 131) (by omega) (by omega), wrap_id (x := x2 * 1117) (by omega) (by omega),
        wrap_id (x := x1 * 131 + x2 * 1117) (by omega) (by omega), wrap_id (x := p * 29) (by omega) (by omega), wrap_id (x := x1 * 131 + x2 * 1117 + p * 29) (by omega) (by omega), wrap_id (x := x3 * 53) (by omega) (by omega),
        wrap_id (x := x1 * 131 + x2 * 1117 + p * 29 + x3 * 53) (by omega) (by omega)]
      obtain ⟨X, hX⟩ : ∃ X : Nat, x1 * 131 + x2 * 1117 + p * 29 + x3 * 53 = X := ⟨(x1 * 131 + x2 * 1117 + p * 29 + x3 * 53).toNat, by omega⟩
      rw [hX]
      have hXb : X < 1000000000 := by omega
      have q4 := tdiv_in (show (0 : Int) ≤ (X : Int) by omega) (show (1 : Int) ≤ 64 by omega)
      rw [wrap_id (x := Int.tdiv X 64) (by omega) (by omega)]
      obtain ⟨Y, hY⟩ : ∃ Y : Nat, Int.tdiv X 64 = Y := ⟨(Int.tdiv X 64).toNat, by omega⟩
      rw [hY, xor_i64 X Y (by omega) (by omega)]
      exact ⟨_, rfl, tmod_in (by omega) hn⟩
/-- The bytes that the reader takes. -/
theorem open_tells (l : List Int) (h : ∀ x ∈ l, 0 ≤ x ∧ x ≤ 255) : ∃ b, spec_l6Open.f l = some (b, 0) ∧ b.length ≤ 2000 ∧ ∀ x ∈ b, 0 ≤ x ∧ x ≤ 255 := by
  unfold spec_l6Open.f
  by_cases hl : (l.length : Int) > 2000
  · rw [if_pos hl, if_pos (by omega)]
    exact ⟨_, rfl, by rw [List.length_take]; omega, fun x hx => h x (List.mem_of_mem_take hx)⟩
  · rw [if_neg hl]
    exact ⟨_, rfl, by omega, h⟩
theorem of_tells (b : List Int) (hb : ∀ x ∈ b, 0 ≤ x ∧ x ≤ 255) (hl : b.length ≤ 2000) (p : Int) (hp : 0 ≤ p) (hp2 : p ≤ 1000000) (l : List ByteArray) (h1 : 1 ≤ l.length) (h2 : l.length ≤ 100) (B : Nat) (hB : ∀ x ∈ l, x.size ≤ B) (k : Nat) (hk : 1 ≤ k) :
    ∃ s, spec_l6Rd_of.f k b p l = some (s, p + 1) ∧ s.size ≤ B := by
  obtain ⟨r, hr, r0, r1⟩ := pick_tells b hb hl p l.length hp hp2 (by omega) (by omega) k hk
  unfold spec_l6Rd_of.f
  rw [hr]
  simp only [Option.bind_some]
  rw [if_pos r0, if_pos r1]
  refine ⟨_, rfl, ?_⟩
  have hlt : r.toNat < l.length := by omega
  have : rdOf ByteArray.empty l r = l[r.toNat] := by
    unfold rdOf
    rw [List.getD_eq_getElem?_getD, List.getElem?_eq_getElem hlt]
    rfl
  rw [this]
  exact hB _ (List.getElem_mem hlt)
theorem term_last (b : List Int) (hb : ∀ x ∈ b, 0 ≤ x ∧ x ≤ 255) (hl : b.length ≤ 2000) (p : Int) (hp : 0 ≤ p) (hp2 : p ≤ 900000) (s : ByteArray) (Z : Nat) (hs : s.size ≤ Z) (hZ : Z ≤ 1000) (k : Nat) (hk : 2 ≤ k) :
    ∃ t q, spec_l92Term.j1 k s b p = some (t, q) ∧ p ≤ q ∧ q ≤ p + 2 ∧ t.size ≤ Z + 2 := by
  obtain ⟨m, rfl⟩ : ∃ m, k = m + 1 := ⟨k - 1, by omega⟩
  rw [spec_l92Term.j1]
  obtain ⟨r, hr, r0, r1⟩ := pick_tells b hb hl p 7 hp (by omega) (by omega) (by omega) m (by omega)
  rw [hr]
  simp only [Option.bind_some]
  split
  · obtain ⟨u, hu, hz⟩ := of_tells b hb hl (p + 1) (by omega) (by omega) ([(⟨#[45]⟩ : ByteArray), (⟨#[64]⟩ : ByteArray), (⟨#[64, 64]⟩ : ByteArray), (⟨#[45, 64]⟩ : ByteArray)] : List ByteArray) (by decide) (by decide) 2 (by decide) m (by omega)
    rw [hu]
    simp only [Option.bind_some]
    rw [if_pos (by omega)]
    exact ⟨_, _, rfl, by omega, by omega, by rw [ByteArray.size_append]; omega⟩
  · split
    · obtain ⟨u, hu, hz⟩ := of_tells b hb hl (p + 1) (by omega) (by omega) ([(⟨#[50]⟩ : ByteArray), (⟨#[51]⟩ : ByteArray), (⟨#[52]⟩ : ByteArray), (⟨#[50, 64]⟩ : ByteArray)] : List ByteArray) (by decide) (by decide) 2 (by decide) m (by omega)
      rw [hu]
      simp only [Option.bind_some]
      rw [if_pos (by omega)]
      exact ⟨_, _, rfl, by omega, by omega, by rw [ByteArray.size_append]; omega⟩
    · exact ⟨_, _, rfl, by omega, by omega, by omega⟩
theorem term_tells (b : List Int) (hb : ∀ x ∈ b, 0 ≤ x ∧ x ≤ 255) (hl : b.length ≤ 2000) : ∀ (d : Nat), d ≤ 3 → ∃ N Z : Nat, N ≤ 5 * 3 ^ (d + 1) ∧ Z ≤ 5 * 3 ^ (d + 1) ∧ ∀ (k : Nat), 4 + 2 * d ≤ k → ∀ p : Int, 0 ≤ p → p ≤ 100000 - 1000 * (d : Int) →
    ∃ s q, spec_l92Term.f k b p (d : Int) = some (s, q) ∧ p ≤ q ∧ q ≤ p + N ∧ s.size ≤ Z := by
  intro d
  induction d with
  | zero =>
    intro _
    refine ⟨3, 3, by decide, by decide, fun k hk p hp hp2 => ?_⟩
    obtain ⟨m, rfl⟩ : ∃ m, k = m + 2 := ⟨k - 2, by omega⟩
    rw [spec_l92Term.f]
    obtain ⟨u, hu, hz⟩ := of_tells b hb hl p hp (by omega) [(⟨#[110]⟩ : ByteArray), (⟨#[101]⟩ : ByteArray), (⟨#[115]⟩ : ByteArray), (⟨#[119]⟩ : ByteArray), (⟨#[101]⟩ : ByteArray)] (by decide) (by decide) 1 (by decide) (m + 1) (by omega)
    rw [hu]
    simp only [Option.bind_some]
    rw [if_neg (by omega), spec_l92Term.j0, if_neg (by decide)]
    obtain ⟨t, q, ht, h1, h2, h3⟩ := term_last b hb hl (p + 1) (by omega) (by omega) u 1 hz (by omega) m (by omega)
    exact ⟨t, q, ht, by omega, by omega, by omega⟩
  | succ d ih =>
    intro hd
    obtain ⟨N, Z, hN, hZ, hih⟩ := ih (by omega)
    have h3 : 3 ^ (d + 1 + 1) = 3 * 3 ^ (d + 1) := by rw [Nat.pow_succ, Nat.mul_comm]
    have hpow : 3 ≤ 3 ^ (d + 1) := Nat.pow_le_pow_right (n := 3) (by omega) (show 1 ≤ d + 1 by omega)
    have hpow2 : 3 ^ (d + 1) ≤ 3 ^ 3 := Nat.pow_le_pow_right (n := 3) (by omega) (by omega)
    have e27 : 3 ^ 3 = 27 := rfl
    rw [e27] at hpow2
    refine ⟨2 * N + 4, 2 * Z + 5, by omega, by omega, fun k hk p hp hp2 => ?_⟩
    obtain ⟨m, rfl⟩ : ∃ m, k = m + 2 := ⟨k - 2, by omega⟩
    rw [spec_l92Term.f]
    obtain ⟨u, hu, hz⟩ := of_tells b hb hl p hp (by omega) [(⟨#[110]⟩ : ByteArray), (⟨#[101]⟩ : ByteArray), (⟨#[115]⟩ : ByteArray), (⟨#[119]⟩ : ByteArray), (⟨#[101]⟩ : ByteArray)] (by decide) (by decide) 1 (by decide) (m + 1) (by omega)
    rw [hu]
    simp only [Option.bind_some]
    rw [if_pos (by omega)]
    obtain ⟨r, hr, r0, r1⟩ := pick_tells b hb hl (p + 1) 4 (by omega) (by omega) (by omega) (by omega) (m + 1) (by omega)
    rw [hr]
    simp only [Option.bind_some]
    rw [spec_l92Term.j0]
    have hw : wrap64 (((d + 1 : Nat) : Int) - 1) = (d : Int) := by rw [show (((d + 1 : Nat) : Int) - 1) = (d : Int) by omega]; exact wrap_id (by omega) (by omega)
    rw [hw]
    by_cases hrr : r > 0
    · rw [if_pos (decide_eq_true hrr)]
      obtain ⟨s1, q1, a1, a2, a3, a4⟩ := hih m (by omega) (p + 1 + 1) (by omega) (by omega)
      rw [a1]
      simp only [Option.bind_some]
      have z1 : (⟨#[40]⟩ : ByteArray).size = 1 := rfl
      have z2 : (⟨#[43]⟩ : ByteArray).size = 1 := rfl
      have z3 : (⟨#[41]⟩ : ByteArray).size = 1 := rfl
      rw [if_pos (by omega), if_pos (by rw [ByteArray.size_append]; omega)]
      obtain ⟨s2, q2, b1, b2, b3, b4⟩ := hih m (by omega) q1 (by omega) (by omega)
      rw [b1]
      simp only [Option.bind_some]
      rw [if_pos (by simp only [ByteArray.size_append]; omega), if_pos (by simp only [ByteArray.size_append]; omega)]
      obtain ⟨t, q, ht, h1, h2, h3⟩ := term_last b hb hl q2 (by omega) (by omega) (((((⟨#[40]⟩ : ByteArray) ++ s1) ++ (⟨#[43]⟩ : ByteArray)) ++ s2) ++ (⟨#[41]⟩ : ByteArray)) (2 * Z + 3) (by simp only [ByteArray.size_append]; omega) (by omega) m (by omega)
      exact ⟨t, q, ht, by omega, by omega, by omega⟩
    · rw [if_neg (by simpa using hrr)]
      obtain ⟨t, q, ht, h1, h2, h3⟩ := term_last b hb hl (p + 1 + 1) (by omega) (by omega) u 1 hz (by omega) m (by omega)
      exact ⟨t, q, ht, by omega, by omega, by omega⟩
theorem text_tells (b : List Int) (hb : ∀ x ∈ b, 0 ≤ x ∧ x ≤ 255) (hl : b.length ≤ 2000) (p : Int) (hp : 0 ≤ p) (hp2 : p ≤ 10000) (k : Nat) (hk : 10 ≤ k) :
    ∃ s q, spec_l92Text.f k b p = some (s, q) ∧ p ≤ q ∧ q ≤ p + 1000 ∧ s.size ≤ 1000 := by
  unfold spec_l92Text.f
  obtain ⟨r, hr, r0, r1⟩ := pick_tells b hb hl p 5 hp (by omega) (by omega) (by omega) k (by omega)
  rw [hr]
  simp only [Option.bind_some]
  split
  · obtain ⟨u, hu, hz⟩ := of_tells b hb hl (p + 1) (by omega) (by omega) ([(⟨#[52, 64, 101]⟩ : ByteArray), (⟨#[40, 50, 101, 43, 40, 110, 43, 40, 50, 119, 43, 115, 41, 41, 41]⟩ : ByteArray), (⟨#[40, 40, 101, 43, 110, 41, 43, 45, 40, 101, 43, 110, 41, 41]⟩ : ByteArray), (⟨#[57, 40, 101, 43, 110, 41]⟩ : ByteArray), (⟨#[57, 57, 110]⟩ : ByteArray), (⟨#[57, 57, 57, 110]⟩ : ByteArray), (⟨#[40, 51, 110, 43, 40, 52, 101, 43, 40, 51, 115, 43, 52, 119, 41, 41, 41]⟩ : ByteArray)] : List ByteArray) (by decide) (by decide) 100 (by decide) k (by omega)
    rw [hu]
    exact ⟨_, _, rfl, by simp only; omega, by simp only; omega, by simp only; omega⟩
  · obtain ⟨N, Z, hN, hZ, hih⟩ := term_tells b hb hl 3 (by omega)
    have e81 : 5 * 3 ^ (3 + 1) = 405 := rfl
    rw [e81] at hN hZ
    obtain ⟨s1, q1, a1, a2, a3, a4⟩ := hih k (by omega) (p + 1) (by omega) (by omega)
    have e3 : ((3 : Nat) : Int) = 3 := rfl
    rw [e3] at a1
    rw [a1]
    simp only [Option.bind_some]
    obtain ⟨r', hr', r0', r1'⟩ := pick_tells b hb hl q1 24 (by omega) (by omega) (by omega) (by omega) k (by omega)
    rw [hr']
    simp only [Option.bind_some]
    split
    · obtain ⟨u, hu, hz⟩ := of_tells b hb hl (q1 + 1) (by omega) (by omega) ([(⟨#[41]⟩ : ByteArray), (⟨#[110]⟩ : ByteArray), (⟨#[43]⟩ : ByteArray)] : List ByteArray) (by decide) (by decide) 100 (by decide) k (by omega)
      rw [hu]
      simp only [Option.bind_some]
      rw [if_pos (by omega)]
      exact ⟨_, _, rfl, by omega, by omega, by rw [ByteArray.size_append]; omega⟩
    · split
      · obtain ⟨u, hu, hz⟩ := of_tells b hb hl (q1 + 1) (by omega) (by omega) ([(⟨#[]⟩ : ByteArray), (⟨#[120]⟩ : ByteArray), (⟨#[40, 110, 41]⟩ : ByteArray), (⟨#[40, 110, 43, 101]⟩ : ByteArray), (⟨#[45]⟩ : ByteArray), (⟨#[49, 110]⟩ : ByteArray), (⟨#[40, 40, 110, 43, 101, 41, 115, 41]⟩ : ByteArray)] : List ByteArray) (by decide) (by decide) 100 (by decide) k (by omega)
        rw [hu]
        exact ⟨_, _, rfl, by simp only; omega, by simp only; omega, by simp only; omega⟩
      · exact ⟨_, _, rfl, by omega, by omega, by omega⟩
theorem word_tells (l : List Int) (h : ∀ x ∈ l, (Lit.int .u8 x).wf = true) (k : Nat) (hk : 10 ≤ k) : ∃ s, spec_l92Word.f k l = some s ∧ s.size ≤ 1000 := by
  obtain ⟨b, h1, h2, h3⟩ := open_tells l (wf_u8 h)
  unfold spec_l92Word.f
  rw [h1]
  simp only [Option.bind_some]
  obtain ⟨s, q, a1, a2, a3, a4⟩ := text_tells b h3 h2 0 (by omega) (by omega) k hk
  rw [a1]
  exact ⟨s, rfl, a4⟩
theorem tt_sum {A B C n : Nat} (h : A + B + C < n) (hn : n ≤ 200) : wrap64 (wrap64 ((A : Int) + (B : Int)) + (C : Int)) < (n : Int) := by
  unfold wrap64
  omega
theorem tt_j0 (K : Nat) (s : ByteArray) (A B C n : Int) (x : Int × Int × Int × Bool) (h60 : 1 + s.size ≤ 9223372036854775807) (hB : impl_TermTurns.f K ((⟨#[45]⟩ : ByteArray) ++ s) = some x) (hL : impl_TermLength.f K s = some (n, true)) (hw : wrap64 (wrap64 (A + B) + C) < n) (hx : x = (0, 0, 0, false) ∨ x = (B, A, C, true)) : laws_FnTermTurns.j0 (K + 1) s A B C true A B C true false = some true := by
  rw [laws_FnTermTurns.j0, if_neg (by decide), if_pos h60, hB, Option.bind_some, hL, Option.bind_some]
  show (if (true = true) then (if wrap64 (wrap64 (A + B) + C) < n then _ else _) else _) = _
  rw [if_pos rfl, if_pos hw]
  rcases hx with h | h
  · rw [h]
    show (if (false = true) then _ else some true) = some true
    rw [if_neg (by decide)]
  · rw [h]
    show (if (true = true) then (if B = B then (if A = A then some (C == C) else _) else _) else _) = some true
    rw [if_pos rfl, if_pos rfl, if_pos rfl, beq_self_eq_true]
theorem tt_none (K : Nat) (s : ByteArray) : laws_FnTermTurns.j0 (K + 1) s 0 0 0 false 0 0 0 false true = some true := by
  rw [laws_FnTermTurns.j0, if_pos rfl, if_pos (by decide), if_pos rfl, if_pos rfl]
  rfl
theorem tt_back {s : ByteArray} {t : T} (e : short s = some t) : turnsOf ((⟨#[45]⟩ : ByteArray) ++ s) = (0, 0, 0, false) ∨ turnsOf ((⟨#[45]⟩ : ByteArray) ++ s) = ((tcount rgt t.walk : Int), (tcount turn t.walk : Int), (tcount opp t.walk : Int), true) := by
  obtain ⟨ho, hlen, hn, hs60, hx⟩ := short_some e
  have hlet := T.walk_letters t ho
  have hb := back_pairs
  have b1 := tcount_back turn rgt (fun x y hx hy => (hb x y hx hy).1) t.walk hlet
  have b2 := tcount_back rgt turn (fun x y hx hy => (hb x y hx hy).2.1) t.walk hlet
  have b3 := tcount_back opp opp (fun x y hx hy => (hb x y hx hy).2.2) t.walk hlet
  have hw : (T.one 45 t).walk = (t.walk.map opp).reverse := by rw [T.walk, if_pos rfl]
  have hf := short_front e 45 (by unfold isSign; decide)
  by_cases hc : s.size ≤ 59 ∧ (T.one (45 : UInt8).toNat t).len ≤ 200
  · right
    unfold turnsOf
    rw [hf, if_pos hc]
    show ((tcount turn (T.one 45 t).walk : Int), (tcount rgt (T.one 45 t).walk : Int), (tcount opp (T.one 45 t).walk : Int), true) = _
    rw [hw, b1, b2, b3]
  · left
    unfold turnsOf
    rw [hf, if_neg hc]
theorem tt_law (K : Nat) (hK : 1000 ≤ K) (s : ByteArray) : ∃ A B C b, turnsOf s = (A, B, C, b) ∧ laws_FnTermTurns.j0 (K + 1) s A B C b A B C b (!b) = some true := by
  cases e : short s with
  | none => exact ⟨0, 0, 0, false, by unfold turnsOf; rw [e], tt_none K s⟩
  | some t =>
    obtain ⟨ho, hlen, hn, hs60, hx⟩ := short_some e
    have hsum := tcount_sum t.walk (T.walk_letters t ho) (walk_ne ho)
    rw [T.walk_len t ho] at hsum
    have hL := length_impl s K (Nat.le_trans (by decide) hK)
    rw [e] at hL
    exact ⟨_, _, _, true, by unfold turnsOf; rw [e], tt_j0 K s _ _ _ _ _ (Nat.le_trans (Nat.add_le_add_left hs60 1) (by decide)) (turns_impl _ K (Nat.le_trans (by decide) hK)) hL (tt_sum hsum hlen) (tt_back e)⟩
theorem FnTermTurns : laws_FnTermTurns.Pure := by
  intro l h1 h2 h3
  by_cases hl : (l.length : Int) > 1048576
  · exact ⟨0, by unfold laws_FnTermTurns.f; rw [if_pos hl]⟩
  · obtain ⟨k, hk⟩ : ∃ k, 1000 ≤ k := ⟨1999, by decide⟩
    obtain ⟨s, hs, hz⟩ := word_tells l h3 (k + 1) (Nat.le_trans (Nat.le_trans (by decide) hk) (Nat.le_succ k))
    have k9 : 900 ≤ k + 1 := Nat.le_trans (Nat.le_trans (by decide) hk) (Nat.le_succ k)
    obtain ⟨A, B, C, b, q1, q2⟩ := tt_law k hk s
    refine ⟨k + 1, ?_⟩
    unfold laws_FnTermTurns.f spec_DrawTermTurns.f
    rw [if_neg hl, hs, Option.bind_some, Option.bind_some, turns_impl s (k + 1) k9, Option.bind_some, turns_spec s (k + 1) k9, Option.bind_some, q1, if_neg (by simp), if_pos rfl, if_pos rfl, if_pos rfl]
    exact q2

end Go.Proofs.Ytopkmliapnalkaa.Pure
