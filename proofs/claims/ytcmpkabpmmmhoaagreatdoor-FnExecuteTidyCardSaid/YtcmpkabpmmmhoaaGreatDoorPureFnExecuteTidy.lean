/- The law FnExecuteTidy, as a statement over plain numbers and lists, is proved: what the program's functions compute is what the reference's compute. -/
import Derived.Test.YtcmpkabpmmmhoaaGreatDoorPFnExecuteTidyx7
import Derived.Laws.Entries
import Derived.Lib.SplitLaws
namespace Go.Proofs.YtcmpkabpmmmhoaaGreatDoor.Pure
open Go.RowKit Go.Proofs.YtcmpkabpmmmhoaaGreatDoor.PFnExecuteTidy Go.Proofs.YtcmpkabpmmmhoaaGreatDoorW.PrintWords Go.Proofs.YtcmpkabpmmmhoaaGreatDoorW.PrintLast
set_option linter.unusedVariables false
set_option linter.unusedSimpArgs false
/-! ### terms, as plain trees -/
inductive T where
  | leaf (c : Nat)
  | one (c : Nat) (t : T)
  | two (a b : T)
def isLetter (c : Nat) : Prop := c = 101 ∨ c = 110 ∨ c = 119 ∨ c = 115
instance (c : Nat) : Decidable (isLetter c) := by unfold isLetter; infer_instance
def isSign (c : Nat) : Prop := c = 45 ∨ c = 64 ∨ (50 ≤ c ∧ c ≤ 57)
instance (c : Nat) : Decidable (isSign c) := by unfold isSign; infer_instance
theorem letter_sign {c : Nat} (h : isLetter c) : ¬ isSign c := by unfold isLetter at h; unfold isSign; omega
def T.ok : T → Prop
  | .leaf c => isLetter c
  | .one c t => isSign c ∧ t.ok
  | .two a b => a.ok ∧ b.ok
/-- The text of a term. -/
def T.text : T → List Nat
  | .leaf c => [c]
  | .one c t => c :: t.text
  | .two a b => 40 :: (a.text ++ 43 :: (b.text ++ [41]))
/-- Reads a term. -/
def rdT : Nat → List Nat → Option (T × List Nat)
  | 0, _ => none
  | _ + 1, [] => none
  | k + 1, c :: l =>
    if isLetter c then some (.leaf c, l)
    else if isSign c then (rdT k l).bind fun p => some (.one c p.1, p.2)
    else if c = 40 then
      (rdT k l).bind fun p =>
        if p.2.head? = some 43 then
          (rdT k p.2.tail).bind fun q => if q.2.head? = some 41 then some (.two p.1 q.1, q.2.tail) else none
        else none
    else none
theorem T.text_pos (t : T) : 0 < t.text.length := by cases t <;> simp [T.text]
theorem T.text_two (a b : T) : (T.two a b).text.length = a.text.length + b.text.length + 3 := by simp [T.text]; omega
theorem head_tail {l : List Nat} {c : Nat} (h : l.head? = some c) : l = c :: l.tail := by
  cases l with
  | nil => simp at h
  | cons x r => simp at h; rw [h]; rfl
theorem rd_sound : ∀ (k : Nat) (l : List Nat) (t : T) (r : List Nat), rdT k l = some (t, r) → t.ok ∧ l = t.text ++ r := by
  intro k
  induction k with
  | zero => intro l t r h; simp [rdT] at h
  | succ k ih =>
    intro l t r h
    cases l with
    | nil => simp [rdT] at h
    | cons c l =>
      simp only [rdT] at h
      split at h
      · next hc => simp only [Option.some.injEq, Prod.mk.injEq] at h; obtain ⟨rfl, rfl⟩ := h; exact ⟨hc, rfl⟩
      · split at h
        · next hc =>
          obtain ⟨⟨t1, r1⟩, h1, h2⟩ := Option.bind_eq_some_iff.mp h
          simp only [Option.some.injEq, Prod.mk.injEq] at h2
          obtain ⟨rfl, rfl⟩ := h2
          have := ih _ _ _ h1
          exact ⟨⟨hc, this.1⟩, by rw [this.2]; rfl⟩
        · split at h
          · next hc =>
            obtain ⟨⟨t1, r1⟩, h1, h2⟩ := Option.bind_eq_some_iff.mp h
            split at h2
            · next hp =>
              obtain ⟨⟨t2, r2⟩, h3, h4⟩ := Option.bind_eq_some_iff.mp h2
              split at h4
              · next hq =>
                simp only [Option.some.injEq, Prod.mk.injEq] at h4
                obtain ⟨rfl, rfl⟩ := h4
                have i1 := ih _ _ _ h1
                have i2 := ih _ _ _ h3
                have e1 := head_tail hp
                have e2 := head_tail hq
                refine ⟨⟨i1.1, i2.1⟩, ?_⟩
                simp only at e1 e2 i1 i2
                rw [hc, i1.2, e1, i2.2, e2]
                simp [T.text]
              · simp at h4
            · simp at h2
          · simp at h
theorem rd_full : ∀ (t : T) (k : Nat) (r : List Nat), t.ok → t.text.length < k → rdT k (t.text ++ r) = some (t, r) := by
  intro t
  induction t with
  | leaf c =>
    intro k r ho hk
    obtain ⟨k, rfl⟩ : ∃ m, k = m + 1 := ⟨k - 1, by omega⟩
    simp only [T.text, List.cons_append, List.nil_append, rdT]
    rw [if_pos (show isLetter c from ho)]
  | one c t ih =>
    intro k r ho hk
    obtain ⟨k, rfl⟩ : ∃ m, k = m + 1 := ⟨k - 1, by omega⟩
    simp only [T.text, List.length_cons] at hk
    simp only [T.text, List.cons_append, rdT]
    rw [if_neg (fun h => letter_sign h ho.1), if_pos ho.1, ih k r ho.2 (by omega)]
    rfl
  | two a b iha ihb =>
    intro k r ho hk
    obtain ⟨k, rfl⟩ : ∃ m, k = m + 1 := ⟨k - 1, by omega⟩
    simp only [T.text, List.length_cons, List.length_append, List.length_nil] at hk
    simp only [T.text, List.cons_append, List.append_assoc, List.nil_append, rdT]
    rw [if_neg (show ¬ isLetter 40 by decide), if_neg (show ¬ isSign 40 by decide)]
    simp only [if_true]
    rw [iha k _ ho.1 (by omega)]
    simp only [Option.bind_some, List.head?_cons, if_true, List.tail_cons]
    rw [ihb k _ ho.2 (by omega)]
    simp
/-- A term at the head of a text is there whatever the rounds. -/
theorem rd_rounds {k k' : Nat} {l : List Nat} (h : l.length < k) (h' : l.length < k') : rdT k l = rdT k' l := by
  have key : ∀ k k', l.length < k → l.length < k' → ∀ x, rdT k l = some x → rdT k' l = some x := by
    intro k k' h h' x hx
    obtain ⟨ho, hl⟩ := rd_sound k l x.1 x.2 hx
    rw [hl]
    refine rd_full _ _ _ ho ?_
    have := congrArg List.length hl
    simp at this
    omega
  cases e : rdT k l with
  | some x => exact (key k k' h h' x e).symm
  | none =>
    cases e' : rdT k' l with
    | none => rfl
    | some x => have := key k' k h' h x e'; rw [e] at this; simp at this
theorem rd_len {k : Nat} {l : List Nat} {t : T} {r : List Nat} (h : rdT k l = some (t, r)) : r.length < l.length := by
  have := rd_sound k l t r h
  have hp := t.text_pos
  rw [this.2]
  simp
  omega
/-- A text is a term. -/
def isTerm (l : List Nat) : Option T := (rdT (l.length + 1) l).bind fun p => if p.2 = [] then some p.1 else none
theorem isTerm_text {t : T} (h : t.ok) : isTerm t.text = some t := by
  unfold isTerm
  have := rd_full t (t.text.length + 1) [] h (by omega)
  rw [List.append_nil] at this
  rw [this]
  rfl
theorem isTerm_some {l : List Nat} {t : T} : isTerm l = some t ↔ t.ok ∧ l = t.text := by
  constructor
  · intro h
    unfold isTerm at h
    obtain ⟨⟨t1, r1⟩, h1, h2⟩ := Option.bind_eq_some_iff.mp h
    split at h2
    · next hr =>
      injection h2 with h2
      simp only at hr h2
      subst hr h2
      have := rd_sound _ _ _ _ h1
      rwa [List.append_nil] at this
    · simp at h2
  · rintro ⟨h, rfl⟩
    exact isTerm_text h
/-- The bytes of a string as numbers. -/
def nats (s : ByteArray) : List Nat := s.data.toList.map UInt8.toNat
theorem nats_length (s : ByteArray) : (nats s).length = s.size := by simp [nats]
theorem bt_nats (s : ByteArray) (i : Nat) (h : i < s.size) : (nats s)[i]? = some (bt s (i : Int)).toNat := by
  unfold nats bt
  rw [dif_pos (by simpa using h)]
  simp only [List.getElem?_map, Int.toNat_natCast]
  have hl : i < s.data.toList.length := by simpa using h
  rw [List.getElem?_eq_getElem hl]
  rfl
theorem nats_extract (s : ByteArray) : nats (s.extract 1 s.size) = (nats s).tail := by
  unfold nats
  rw [Lib.extract_data]
  have : (s.data.toList.drop 1).take (s.size - 1) = s.data.toList.drop 1 := by
    apply List.take_of_length_le
    simp
  rw [this]
  simp
theorem nats_append (a b : ByteArray) : nats (a ++ b) = nats a ++ nats b := by
  unfold nats
  rw [ByteArray.data_append, Array.toList_append, List.map_append]
/-! ### how the two readers read -/
def toS : T → S67
  | .leaf c => ⟨c, []⟩
  | .one c t => ⟨c, [toS t]⟩
  | .two a b => ⟨43, [toS a, toS b]⟩
def toI : T → S61
  | .leaf c => ⟨c, []⟩
  | .one c t => ⟨c, [toI t]⟩
  | .two a b => ⟨40, [toI a, toI b]⟩
theorem etaS (x : S67) : (⟨x.f0, x.f1⟩ : S67) = x := by cases x; rfl
theorem etaI (x : S61) : (⟨x.f0, x.f1⟩ : S61) = x := by cases x; rfl
theorem bt_nonneg (s : ByteArray) (i : Int) : 0 ≤ bt s i := (bt_range s i).1
theorem spec_reads (s : ByteArray) : ∀ (k p : Nat), p ≤ s.size → s.size - p < k →
    match rdT k ((nats s).drop p) with
    | none => (spec_l10Read.g s k (p : Int)).2.2 = 0
    | some (t, r) => r.length < s.size - p ∧ (nats s).drop (s.size - r.length) = r ∧ spec_l10Read.g s k (p : Int) = ((toS t).f0, (toS t).f1, ((s.size - r.length : Nat) : Int)) := by
  intro k
  induction k with
  | zero => intro p hp hk; omega
  | succ k ih =>
    intro p hp hk
    by_cases h1 : p < s.size
    · have hd : (nats s).drop p = (bt s p).toNat :: (nats s).drop (p + 1) := by
        have hl : p < (nats s).length := by rw [nats_length]; exact h1
        rw [List.drop_eq_getElem_cons hl]
        have := bt_nats s p h1
        rw [List.getElem?_eq_getElem hl] at this
        injection this with this
        rw [this]
      have hb := bt_nonneg s (p : Int)
      obtain ⟨c, hc⟩ : ∃ c : Nat, bt s (p : Int) = c := ⟨(bt s (p : Int)).toNat, by omega⟩
      have ihp := ih (p + 1) (by omega) (by omega)
      rw [hd, spec_l10Read.g_succ, if_pos (by omega), hc]
      have L1 : isLetter c ↔ ((c : Int) = 110 ∨ (c : Int) = 101 ∨ (c : Int) = 115 ∨ (c : Int) = 119) := by unfold isLetter; omega
      have S1 : isSign c ↔ ((c : Int) = 45 ∨ (c : Int) = 64 ∨ (50 ≤ (c : Int) ∧ (c : Int) ≤ 57)) := by unfold isSign; omega
      simp only [Int.toNat_natCast, rdT]
      have hp1 : ((p : Int) + 1) = ((p + 1 : Nat) : Int) := by omega
      by_cases hL : isLetter c
      · rw [if_pos hL, if_pos (L1.mp hL)]
        simp only [List.length_drop, nats_length]
        refine ⟨by omega, ?_, ?_⟩
        · congr 1; omega
        · simp only [toS, etaS, Prod.mk.injEq, true_and]; omega
      · rw [if_neg hL, if_neg (fun h => hL (L1.mpr h))]
        by_cases hS : isSign c
        · rw [if_pos hS, if_pos (S1.mp hS), hp1]
          cases e : rdT k ((nats s).drop (p + 1)) with
          | none => rw [e] at ihp; simpa using ihp
          | some x =>
            obtain ⟨t, r⟩ := x
            rw [e] at ihp
            simp only [Option.bind_some]
            obtain ⟨i1, i2, i3⟩ := ihp
            refine ⟨by omega, i2, ?_⟩
            rw [i3]
            simp only [toS, etaS]
        · rw [if_neg hS, if_neg (fun h => hS (S1.mpr h))]
          by_cases h40 : c = 40
          · rw [if_pos h40, if_neg (show ¬ ((c : Int) ≠ 40) by omega), hp1]
            cases e : rdT k ((nats s).drop (p + 1)) with
            | none => rw [e] at ihp; simp only at ihp; rw [if_pos (.inl ihp)]; rfl
            | some x =>
              obtain ⟨t, r⟩ := x
              rw [e] at ihp
              obtain ⟨i1, i2, i3⟩ := ihp
              simp only [Option.bind_some]
              rw [i3]
              simp only
              have hr1 : r.head? = some 43 ↔ ¬ (((s.size - r.length : Nat) : Int) = 0 ∨ (s.size : Int) ≤ ((s.size - r.length : Nat) : Int) ∨ bt s ((s.size - r.length : Nat) : Int) ≠ 43) := by
                have hrr : r.head? = (nats s)[s.size - r.length]? := by rw [← List.head?_drop, i2]
                rw [hrr]
                by_cases hz : r.length = 0
                · rw [List.getElem?_eq_none (by rw [nats_length]; omega)]
                  simp only [reduceCtorEq, false_iff, Decidable.not_not]
                  exact .inr (.inl (by omega))
                · rw [bt_nats s _ (by omega)]
                  have := bt_nonneg s ((s.size - r.length : Nat) : Int)
                  simp only [Option.some.injEq]
                  omega
              by_cases hh : r.head? = some 43
              · rw [if_pos hh, if_neg (hr1.mp hh)]
                have hz : 0 < r.length := by cases r with
                  | nil => simp at hh
                  | cons => simp
                have ht : r.tail = (nats s).drop (s.size - r.length + 1) := by
                  rw [← List.tail_drop, i2]
                have ihq := ih (s.size - r.length + 1) (by omega) (by omega)
                have hp2 : (((s.size - r.length : Nat) : Int) + 1) = ((s.size - r.length + 1 : Nat) : Int) := by omega
                rw [hp2, ht]
                cases e2 : rdT k ((nats s).drop (s.size - r.length + 1)) with
                | none => rw [e2] at ihq; simp only at ihq; rw [if_pos (.inl ihq)]; rfl
                | some y =>
                  obtain ⟨u, q⟩ := y
                  rw [e2] at ihq
                  obtain ⟨j1, j2, j3⟩ := ihq
                  simp only [Option.bind_some]
                  rw [j3]
                  simp only
                  have hr2 : q.head? = some 41 ↔ ¬ (((s.size - q.length : Nat) : Int) = 0 ∨ (s.size : Int) ≤ ((s.size - q.length : Nat) : Int) ∨ bt s ((s.size - q.length : Nat) : Int) ≠ 41) := by
                    have hrr : q.head? = (nats s)[s.size - q.length]? := by rw [← List.head?_drop, j2]
                    rw [hrr]
                    by_cases hz : q.length = 0
                    · rw [List.getElem?_eq_none (by rw [nats_length]; omega)]
                      simp only [reduceCtorEq, false_iff, Decidable.not_not]
                      exact .inr (.inl (by omega))
                    · rw [bt_nats s _ (by omega)]
                      have := bt_nonneg s ((s.size - q.length : Nat) : Int)
                      simp only [Option.some.injEq]
                      omega
                  by_cases hg : q.head? = some 41
                  · rw [if_pos hg, if_neg (hr2.mp hg)]
                    have hz2 : 0 < q.length := by cases q with
                      | nil => simp at hg
                      | cons => simp
                    simp only [List.length_tail]
                    refine ⟨by omega, ?_, ?_⟩
                    · rw [show s.size - (q.length - 1) = s.size - q.length + 1 by omega, ← List.tail_drop, j2]
                    · simp only [toS, etaS, Prod.mk.injEq, true_and]; omega
                  · rw [if_neg hg, if_pos (Decidable.not_not.mp (fun h => hg (hr2.mpr h)))]
              · rw [if_neg hh, if_pos (Decidable.not_not.mp (fun h => hh (hr1.mpr h)))]
          · rw [if_neg h40, if_pos (show (c : Int) ≠ 40 by omega)]
    · have hd : (nats s).drop p = [] := List.drop_eq_nil_of_le (by rw [nats_length]; omega)
      rw [hd, spec_l10Read.g_succ, if_neg (by omega)]
      simp [rdT]
theorem cut_tells (c : Nat) (l : ByteArray) : (impl_takeTerm.cut c l).2 = decide ((nats l).head? = some c) ∧ ((impl_takeTerm.cut c l).2 = true → nats (impl_takeTerm.cut c l).1 = (nats l).tail) := by
  unfold impl_takeTerm.cut
  by_cases h : 0 < l.size
  · have h0 := bt_nats l 0 h
    have hb := bt_nonneg l 0
    rw [List.head?_eq_getElem?, h0]
    by_cases hc : bt l 0 = c
    · rw [if_pos ⟨h, hc⟩]
      refine ⟨?_, fun _ => nats_extract l⟩
      simp [hc]
    · rw [if_neg (fun hh => hc hh.2)]
      refine ⟨?_, fun hh => by simp at hh⟩
      simp
      have h1 : bt l ((0 : Nat) : Int) = bt l 0 := rfl
      omega
  · rw [if_neg (fun hh => h hh.1)]
    have : nats l = [] := List.eq_nil_of_length_eq_zero (by rw [nats_length]; omega)
    rw [this]
    exact ⟨by simp, fun hh => by simp at hh⟩
theorem impl_reads : ∀ (k : Nat) (s : ByteArray), s.size < k →
    match rdT k (nats s) with
    | none => (impl_takeTerm.g k s).2.2.2 = false
    | some (t, r) => ∃ l, nats l = r ∧ impl_takeTerm.g k s = ((toI t).f0, (toI t).f1, l, true) := by
  intro k
  induction k with
  | zero => intro s hk; omega
  | succ k ih =>
    intro s hk
    rw [impl_takeTerm.g_succ]
    by_cases h0 : s.size = 0
    · have hd : nats s = [] := List.eq_nil_of_length_eq_zero (by rw [nats_length]; exact h0)
      rw [hd, if_pos h0]
      simp [rdT]
    · have h1 : 0 < s.size := by omega
      have hd : nats s = (bt s 0).toNat :: nats (s.extract 1 s.size) := by
        rw [nats_extract]
        have := bt_nats s 0 h1
        rw [← List.head?_eq_getElem?] at this
        exact head_tail this
      have hx : (s.extract 1 s.size).size = s.size - 1 := by simp only [ByteArray.size_extract]; omega
      have hb := bt_nonneg s 0
      obtain ⟨c, hc⟩ : ∃ c : Nat, bt s 0 = c := ⟨(bt s 0).toNat, by omega⟩
      have ih1 := ih (s.extract 1 s.size) (by omega)
      rw [hd, if_neg h0, hc]
      generalize s.extract 1 s.size = s1 at ih1 hx
      have L1 : isLetter c ↔ ((c : Int) = 101 ∨ (c : Int) = 110 ∨ (c : Int) = 119 ∨ (c : Int) = 115) := by unfold isLetter; omega
      have S1 : isSign c ↔ ((c : Int) = 45 ∨ (c : Int) = 64 ∨ (50 ≤ (c : Int) ∧ (c : Int) ≤ 57)) := by unfold isSign; omega
      simp only [Int.toNat_natCast, rdT]
      by_cases hL : isLetter c
      · rw [if_pos hL, if_pos (L1.mp hL)]
        exact ⟨s1, rfl, rfl⟩
      · rw [if_neg hL, if_neg (fun h => hL (L1.mpr h))]
        by_cases hS : isSign c
        · rw [if_pos hS, if_pos (S1.mp hS)]
          cases e : rdT k (nats s1) with
          | none => rw [e] at ih1; simpa using ih1
          | some x =>
            obtain ⟨t, r⟩ := x
            rw [e] at ih1
            obtain ⟨l, i1, i2⟩ := ih1
            simp only [Option.bind_some]
            refine ⟨l, i1, ?_⟩
            rw [i2]
            simp only [toI, etaI]
        · rw [if_neg hS, if_neg (fun h => hS (S1.mpr h))]
          by_cases h40 : c = 40
          · rw [if_pos h40, if_neg (show ¬ ((c : Int) ≠ 40) by omega)]
            cases e : rdT k (nats s1) with
            | none => rw [e] at ih1; simp only at ih1; rw [if_pos (.inl ih1)]; rfl
            | some x =>
              obtain ⟨t, r⟩ := x
              rw [e] at ih1
              obtain ⟨l, i1, i2⟩ := ih1
              simp only [Option.bind_some]
              rw [i2]
              simp only [Bool.true_eq_false, false_or]
              obtain ⟨c1, c2⟩ := cut_tells 43 l
              rw [i1] at c1 c2
              have e43 : ((43 : Nat) : Int) = 43 := rfl
              rw [e43] at c1 c2
              by_cases hh : r.head? = some 43
              · have c3 : (impl_takeTerm.cut 43 l).2 = true := by rw [c1]; exact decide_eq_true hh
                have hl : (impl_takeTerm.cut 43 l).1.size < k := by
                  have hlen := congrArg List.length (c2 c3)
                  have hlt := rd_len e
                  rw [nats_length, List.length_tail] at hlen
                  rw [nats_length] at hlt
                  omega
                have ih2 := ih (impl_takeTerm.cut 43 l).1 hl
                rw [if_pos hh, if_neg (by rw [c3]; decide)]
                rw [c2 c3] at ih2
                cases e2 : rdT k r.tail with
                | none => rw [e2] at ih2; simp only at ih2; rw [ih2]; rfl
                | some y =>
                  obtain ⟨u, q⟩ := y
                  rw [e2] at ih2
                  obtain ⟨m, j1, j2⟩ := ih2
                  simp only [Option.bind_some]
                  rw [j2]
                  simp only [Bool.true_and]
                  obtain ⟨d1, d2⟩ := cut_tells 41 m
                  rw [j1] at d1 d2
                  have e41 : ((41 : Nat) : Int) = 41 := rfl
                  rw [e41] at d1 d2
                  by_cases hg : q.head? = some 41
                  · have d3 : (impl_takeTerm.cut 41 m).2 = true := by rw [d1]; exact decide_eq_true hg
                    rw [if_pos hg, d3]
                    exact ⟨_, d2 d3, by rw [h40]; simp only [toI, etaI]; rfl⟩
                  · rw [if_neg hg]
                    simp only
                    rw [d1]
                    exact decide_eq_false hg
              · rw [if_neg hh, if_pos (by rw [c1]; exact decide_eq_false hh)]
          · rw [if_neg h40, if_pos (show (c : Int) ≠ 40 by omega)]
/-- What the reference's reader of a whole text tells. -/
theorem spec_of (s : ByteArray) : if s.size ≤ 60 then
      match isTerm (nats s) with
      | none => ∃ a b, spec_l10Of.f s = some (a, b, false)
      | some t => spec_l10Of.f s = some ((toS t).f0, (toS t).f1, true)
    else ∃ a b, spec_l10Of.f s = some (a, b, false) := by
  unfold spec_l10Of.f
  by_cases hs : s.size ≤ 60
  · rw [if_pos hs, if_neg (by omega)]
    have h := spec_reads s (s.size + 1) 0 (by omega) (by omega)
    unfold isTerm
    rw [nats_length]
    simp only [List.drop_zero, Nat.sub_zero] at h
    unfold spec_l10Read.f
    rw [if_pos hs, if_pos (by omega)]
    simp only [Option.bind_some]
    have e0 : ((0 : Nat) : Int) = 0 := rfl
    rw [e0] at h
    cases e : rdT (s.size + 1) (nats s) with
    | none =>
      rw [e] at h
      simp only at h
      rw [h]
      simp
    | some x =>
      obtain ⟨t, r⟩ := x
      rw [e] at h
      obtain ⟨h1, h2, h3⟩ := h
      simp only [Option.bind_some]
      rw [h3]
      simp only
      rw [if_pos (show ((s.size - r.length : Nat) : Int) > 0 by omega)]
      by_cases hr : r = []
      · subst hr
        simp
      · have : 0 < r.length := List.length_pos_iff.mpr hr
        rw [if_neg hr]
        have hne : (((s.size - r.length : Nat) : Int) == (s.size : Int)) = false := by simp; omega
        rw [hne]
        exact ⟨_, _, rfl⟩
  · rw [if_neg hs, if_pos (by omega)]
    exact ⟨_, _, rfl⟩
/-- What the program's reader of a whole text tells. -/
theorem impl_of (s : ByteArray) : if s.size ≤ 60 then
      match isTerm (nats s) with
      | none => ∃ a b, impl_readTerm.f s = some (a, b, false)
      | some t => impl_readTerm.f s = some ((toI t).f0, (toI t).f1, true)
    else ∃ a b, impl_readTerm.f s = some (a, b, false) := by
  unfold impl_readTerm.f
  by_cases hs : s.size ≤ 60
  · rw [if_pos hs, if_neg (by omega)]
    have h := impl_reads (s.size + 1) s (by omega)
    unfold isTerm
    rw [nats_length]
    unfold impl_takeTerm.f
    rw [if_pos hs]
    simp only [Option.bind_some]
    cases e : rdT (s.size + 1) (nats s) with
    | none =>
      rw [e] at h
      simp only at h
      rw [h]
      simp
    | some x =>
      obtain ⟨t, r⟩ := x
      rw [e] at h
      obtain ⟨l, h1, h2⟩ := h
      simp only [Option.bind_some]
      rw [h2]
      simp only [if_true]
      by_cases hr : r = []
      · subst hr
        have : l.toList = [] := by
          rw [Lib.toList_data]
          exact List.map_eq_nil_iff.mp h1
        rw [this]
        simp
      · rw [if_neg hr]
        have : (l.toList == ([] : List UInt8)) = false := by
          rw [Lib.toList_data]
          simp
          intro hh
          exact hr (by rw [← h1]; unfold nats; rw [hh]; rfl)
        rw [this]
        exact ⟨_, _, rfl⟩
  · rw [if_neg hs, if_pos (by omega)]
    exact ⟨_, _, rfl⟩
/-! ### walks -/
def turn (c : Nat) : Nat := if c = 101 then 110 else if c = 110 then 119 else if c = 119 then 115 else 101
def opp (c : Nat) : Nat := turn (turn c)
theorem turn_letter (c : Nat) : isLetter (turn c) := by
  unfold turn isLetter
  split
  · omega
  · split
    · omega
    · split <;> omega
theorem nats_inj {a b : ByteArray} (h : nats a = nats b) : a = b := by
  unfold nats at h
  have h2 : a.data.toList = b.data.toList := by
    refine List.map_inj_right ?_ |>.mp h
    intro x y hxy
    exact UInt8.toNat_inj.mp hxy
  cases a with
  | mk a =>
    cases b with
    | mk b => congr 1; exact Array.toList_inj.mp h2
theorem nats_nums (l : List Nat) (h : ∀ c ∈ l, c < 256) : nats (strOfNums (l.map (fun c : Nat => (c : Int)))) = l := by
  unfold nats
  rw [strOfNums_data, List.map_map, List.map_map]
  conv => rhs; rw [← List.map_id l]
  refine List.map_congr_left fun c hc => ?_
  have := h c hc
  simp only [Function.comp, Int.toNat_natCast, UInt8.toNat_ofNat', id]
  exact Nat.mod_eq_of_lt (by omega)
theorem letter_lt {c : Nat} (h : isLetter c) : c < 256 := by unfold isLetter at h; omega
theorem bt_nat (s : ByteArray) (i : Nat) (h : i < s.size) : ∃ c, bt s (i : Int) = (c : Nat) ∧ (nats s)[i]? = some c := by
  have h1 := bt_nats s i h
  have h2 := bt_nonneg s (i : Int)
  exact ⟨(bt s (i : Int)).toNat, by omega, h1⟩
theorem drop_at {l : List Nat} {i c : Nat} (h : l[i]? = some c) : l.drop i = c :: l.drop (i + 1) := by
  obtain ⟨hi, rfl⟩ := List.getElem?_eq_some_iff.mp h
  exact List.drop_eq_getElem_cons hi
def turns : Nat → Nat → Nat
  | 0, c => c
  | n + 1, c => turns n (turn c)
theorem turned_l (n : Nat) : ∀ (d k c i : Nat), i + d = n → n ≤ 3 → d < k → spec_l10Turned.l0 k (c : Int) (n : Int) (i : Int) = some ((turns d c : Nat) : Int) := by
  intro d
  induction d with
  | zero =>
    intro k c i hi hn hk
    obtain ⟨m, rfl⟩ : ∃ m, k = m + 1 := ⟨k - 1, by omega⟩
    rw [spec_l10Turned.l0, if_neg (by omega)]
    rfl
  | succ d ih =>
    intro k c i hi hn hk
    obtain ⟨m, rfl⟩ : ∃ m, k = m + 1 := ⟨k - 1, by omega⟩
    have hw : wrap64 ((i : Int) + 1) = ((i + 1 : Nat) : Int) := by unfold wrap64; omega
    rw [spec_l10Turned.l0, if_pos (by omega), hw]
    have h := fun c' => ih m c' (i + 1) (by omega) hn (by omega)
    by_cases c1 : c = 101
    · rw [if_pos (show (c : Int) = 101 by omega)]
      have e : turn c = 110 := by unfold turn; rw [if_pos c1]
      rw [turns, e]
      exact h 110
    · rw [if_neg (show ¬ (c : Int) = 101 by omega)]
      by_cases c2 : c = 110
      · rw [if_pos (show (c : Int) = 110 by omega)]
        have e : turn c = 119 := by unfold turn; rw [if_neg c1, if_pos c2]
        rw [turns, e]
        exact h 119
      · rw [if_neg (show ¬ (c : Int) = 110 by omega)]
        by_cases c3 : c = 119
        · rw [if_pos (show (c : Int) = 119 by omega)]
          have e : turn c = 115 := by unfold turn; rw [if_neg c1, if_neg c2, if_pos c3]
          rw [turns, e]
          exact h 115
        · rw [if_neg (show ¬ (c : Int) = 119 by omega)]
          have e : turn c = 101 := by unfold turn; rw [if_neg c1, if_neg c2, if_neg c3]
          rw [turns, e]
          exact h 101
theorem turned_1 (k c : Nat) (hk : 4 ≤ k) : spec_l10Turned.f k (c : Int) 1 = some ((turn c : Nat) : Int) := turned_l 1 1 k c 0 rfl (by omega) (by omega)
theorem turned_2 (k c : Nat) (hk : 4 ≤ k) : spec_l10Turned.f k (c : Int) 2 = some ((opp c : Nat) : Int) := turned_l 2 2 k c 0 rfl (by omega) (by omega)
theorem turned_3 (k c : Nat) (hk : 4 ≤ k) : spec_l10Turned.f k (c : Int) 3 = some ((turn (opp c) : Nat) : Int) := turned_l 3 3 k c 0 rfl (by omega) (by omega)
/-! ### tidy terms -/
def T.tidy : T → Nat → Bool → T
  | .leaf c, q, b => .leaf (if b = true then opp (turns q c) else turns q c)
  | .one c t, q, b => if c = 45 then t.tidy q (!b) else if c = 64 then t.tidy ((q + 1) % 4) b else .one c (t.tidy q b)
  | .two x y, q, b => if b = true then .two (y.tidy q b) (x.tidy q b) else .two (x.tidy q b) (y.tidy q b)
theorem turns_letter : ∀ (n c : Nat), isLetter c → isLetter (turns n c)
  | 0, _, h => h
  | n + 1, c, _ => turns_letter n (turn c) (turn_letter c)
theorem T.tidy_size : ∀ (t : T) (q : Nat) (b : Bool), (t.tidy q b).text.length ≤ t.text.length
  | .leaf c, q, b => by simp [T.tidy, T.text]
  | .one c t, q, b => by
    unfold T.tidy
    simp only [T.text, List.length_cons]
    split
    · have := T.tidy_size t q (!b); omega
    · split
      · have := T.tidy_size t ((q + 1) % 4) b; omega
      · have := T.tidy_size t q b; simp only [T.text, List.length_cons]; omega
  | .two x y, q, b => by
    have h1 := T.tidy_size x q b
    have h2 := T.tidy_size y q b
    unfold T.tidy
    rw [T.text_two x y]
    split <;> rw [T.text_two] <;> omega
theorem nats_lit1 (c : Nat) (h : c < 256) : nats (strOfNums [(c : Int)]) = [c] := nats_nums [c] (by simpa using h)
theorem size_lit1 (c : Int) : (strOfNums [c]).size = 1 := rfl
theorem nats_two (x y : ByteArray) : nats (((((⟨#[40]⟩ : ByteArray) ++ x) ++ (⟨#[43]⟩ : ByteArray)) ++ y) ++ (⟨#[41]⟩ : ByteArray)) = 40 :: (nats x ++ 43 :: (nats y ++ [41])) := by
  rw [nats_append, nats_append, nats_append, nats_append]
  have e1 : nats (⟨#[40]⟩ : ByteArray) = [40] := rfl
  have e2 : nats (⟨#[43]⟩ : ByteArray) = [43] := rfl
  have e3 : nats (⟨#[41]⟩ : ByteArray) = [41] := rfl
  rw [e1, e2, e3]
  simp
theorem size_tx {s : ByteArray} {l : List Nat} {n : Nat} (h : nats s = l) (hl : l.length ≤ n) : s.size ≤ n := by rw [← nats_length, h]; exact hl
def termOf (s : ByteArray) : Option T := if s.size ≤ 60 then isTerm (nats s) else none
theorem same_list {a b : ByteArray} (h : a = b) : a.toList = b.toList := by rw [h]
theorem spec_tidy : ∀ (t : T), t.ok → t.text.length ≤ 60 → ∀ (q : Nat) (b : Bool), q < 4 → ∀ k, 3 * t.text.length + 10 ≤ k → ∃ s, spec_l10Tidy.f k (toS t).f0 (toS t).f1 (q : Int) b = some s ∧ nats s = (t.tidy q b).text := by
  intro t
  induction t with
  | leaf c =>
    intro ho hl q b hq k hk
    obtain ⟨m, rfl⟩ : ∃ m, k = m + 3 := ⟨k - 3, by omega⟩
    have hoo : isLetter c := ho
    have hc := letter_lt hoo
    have ho : isLetter c := ho
    unfold isLetter at ho
    have hT := turned_l q q m c 0 (by omega) (by omega) (by omega)
    have e0 : ((0 : Nat) : Int) = 0 := rfl
    rw [e0] at hT
    simp only [toS]
    rw [spec_l10Tidy.f, if_neg (by omega), if_neg (by omega), if_neg (by omega), spec_l10Tidy.j0, if_neg (by decide), if_neg (by omega), if_pos (by omega), if_neg (by omega), spec_l10Tidy.j1, spec_l10Turned.f]
    have hm : 4 ≤ m := by simp only [T.text, List.length_cons, List.length_nil] at hk; omega
    rw [hT]
    simp only [Option.bind_some]
    have hl2 := turns_letter q c hoo
    cases b with
    | true =>
      rw [if_pos rfl, turned_2 m _ hm]
      simp only [Option.bind_some]
      exact ⟨_, rfl, by rw [nats_lit1 (opp (turns q c)) (letter_lt (turn_letter _))]; rfl⟩
    | false =>
      rw [if_neg (by decide)]
      exact ⟨_, rfl, by rw [nats_lit1 (turns q c) (letter_lt hl2)]; rfl⟩
  | one c t ih =>
    intro ho hl q b hq k hk
    simp only [T.text, List.length_cons] at hk hl
    obtain ⟨m, rfl⟩ : ∃ m, k = m + 3 := ⟨k - 3, by omega⟩
    have hc : isSign c := ho.1
    unfold isSign at hc
    have h0 : (0 : Int) < (([toS t].length : Nat) : Int) := by simp
    have hg : rd_T67 [toS t] 0 = toS t := rfl
    simp only [toS]
    rw [spec_l10Tidy.f]
    by_cases c1 : c = 45
    · obtain ⟨s, h1, h2⟩ := ih ho.2 (by omega) q (!b) hq (m + 2) (by omega)
      rw [if_pos (show (c : Int) = 45 by omega), if_pos h0, hg, h1]
      refine ⟨s, rfl, ?_⟩
      conv => rhs; unfold T.tidy
      rw [if_pos c1, h2]
    · rw [if_neg (show ¬ (c : Int) = 45 by omega)]
      by_cases c2 : c = 64
      · obtain ⟨s, h1, h2⟩ := ih ho.2 (by omega) ((q + 1) % 4) b (by omega) (m + 2) (by omega)
        have hw : Int.tmod (wrap64 ((q : Int) + 1)) 4 = (((q + 1) % 4 : Nat) : Int) := by
          rw [show wrap64 ((q : Int) + 1) = ((q + 1 : Nat) : Int) by unfold wrap64; omega, Int.tmod_eq_emod_of_nonneg (by omega)]
          rfl
        rw [if_pos (show (c : Int) = 64 by omega), if_pos h0, hg, hw, h1]
        refine ⟨s, rfl, ?_⟩
        conv => rhs; unfold T.tidy
        rw [if_neg c1, if_pos c2, h2]
      · obtain ⟨s, h1, h2⟩ := ih ho.2 (by omega) q b hq (m + 1) (by omega)
        have hz := size_tx h2 (T.tidy_size t q b)
        rw [if_neg (show ¬ (c : Int) = 64 by omega), if_neg (show ¬ (c : Int) = 43 by omega), spec_l10Tidy.j0, if_neg (by decide), if_neg (show ¬ (c : Int) = 43 by omega), if_pos (show (c : Int) ≥ 50 by omega), if_pos (show (c : Int) ≤ 57 by omega)]
        simp only [Option.bind_some]
        rw [if_pos h0, hg, h1]
        simp only [Option.bind_some]
        rw [if_pos (by rw [size_lit1]; omega)]
        refine ⟨_, rfl, ?_⟩
        conv => rhs; unfold T.tidy
        rw [if_neg c1, if_neg c2, nats_append, nats_lit1 _ (by omega), h2]
        rfl
  | two x y ihx ihy =>
    intro ho hl q b hq k hk
    rw [T.text_two] at hk hl
    obtain ⟨m, rfl⟩ : ∃ m, k = m + 3 := ⟨k - 3, by omega⟩
    obtain ⟨s, h1, h2⟩ := ihx ho.1 (by omega) q b hq (m + 1) (by omega)
    obtain ⟨u, h3, h4⟩ := ihy ho.2 (by omega) q b hq (m + 1) (by omega)
    have hz := size_tx h2 (T.tidy_size x q b)
    have hz' := size_tx h4 (T.tidy_size y q b)
    have hg : rd_T67 [toS x, toS y] 0 = toS x := rfl
    have hh : rd_T67 [toS x, toS y] 1 = toS y := rfl
    have hl0 : (0 : Int) < (([toS x, toS y].length : Nat) : Int) := by simp
    have hl1 : (1 : Int) < (([toS x, toS y].length : Nat) : Int) := by simp
    have z1 : (⟨#[40]⟩ : ByteArray).size = 1 := rfl
    have z2 : (⟨#[43]⟩ : ByteArray).size = 1 := rfl
    simp only [toS]
    rw [spec_l10Tidy.f, if_neg (by decide), if_neg (by decide), if_pos rfl, spec_l10Tidy.j0]
    cases b with
    | true =>
      rw [if_pos rfl, if_pos hl1, hh, h3]
      simp only [Option.bind_some]
      rw [if_pos (by omega), if_pos (by simp only [ByteArray.size_append]; omega), if_pos hl0, hg, h1]
      simp only [Option.bind_some]
      rw [if_pos (by simp only [ByteArray.size_append]; omega), if_pos (by simp only [ByteArray.size_append]; omega)]
      refine ⟨_, rfl, ?_⟩
      rw [nats_two, h2, h4]
      rfl
    | false =>
      rw [if_neg (by decide), if_pos rfl, if_pos hl0, hg, h1]
      simp only [Option.bind_some]
      rw [if_pos (by omega), if_pos (by simp only [ByteArray.size_append]; omega), if_pos hl1, hh, h3]
      simp only [Option.bind_some]
      rw [if_pos (by simp only [ByteArray.size_append]; omega), if_pos (by simp only [ByteArray.size_append]; omega)]
      refine ⟨_, rfl, ?_⟩
      rw [nats_two, h2, h4]
      rfl
theorem tidy_tell_spec (s : ByteArray) (k : Nat) (hk : 300 ≤ k) : match termOf s with
    | none => spec_TermTidy.f k s = some (⟨#[]⟩, false)
    | some t => ∃ r, spec_TermTidy.f k s = some (r, true) ∧ nats r = (t.tidy 0 false).text := by
  have h := spec_of s
  unfold spec_TermTidy.f termOf
  by_cases hs : s.size ≤ 60
  · rw [if_pos hs] at h ⊢
    cases e : isTerm (nats s) with
    | none =>
      rw [e] at h
      obtain ⟨a, b, h⟩ := h
      rw [h]
      rfl
    | some t =>
      rw [e] at h
      simp only at h ⊢
      obtain ⟨ho, hl⟩ := isTerm_some.mp e
      have hz := nats_length s
      rw [hl] at hz
      obtain ⟨r, h1, h2⟩ := spec_tidy t ho (by omega) 0 false (by omega) k (by omega)
      have e0 : ((0 : Nat) : Int) = 0 := rfl
      rw [e0] at h1
      rw [h]
      simp only [Option.bind_some, if_true]
      rw [h1]
      exact ⟨r, rfl, h2⟩
  · rw [if_neg hs] at h ⊢
    obtain ⟨a, b, h⟩ := h
    rw [h]
    rfl
theorem way_of {c : Nat} (h : isLetter c) : ∃ w, w < 4 ∧ c = turns w 101 ∧ impl_wayOf.f (c : Int) = some ((w : Nat) : Int) := by
  unfold isLetter at h
  rcases h with rfl | rfl | rfl | rfl
  · exact ⟨0, by omega, by decide, rfl⟩
  · exact ⟨1, by omega, by decide, rfl⟩
  · exact ⟨2, by omega, by decide, rfl⟩
  · exact ⟨3, by omega, by decide, rfl⟩
theorem letter_at (w : Nat) (hw : w < 4) : nats ((⟨#[101, 110, 119, 115]⟩ : ByteArray).extract ((w : Nat) : Int).toNat (((w : Nat) : Int) + 1).toNat) = [turns w 101] := by
  have : w = 0 ∨ w = 1 ∨ w = 2 ∨ w = 3 := by omega
  rcases this with rfl | rfl | rfl | rfl <;> decide
theorem turns_way (w q : Nat) (hw : w < 4) (hq : q < 4) : turns q (turns w 101) = turns ((w + q) % 4) 101 ∧ opp (turns q (turns w 101)) = turns ((w + q + 2) % 4) 101 := by
  have h1 : w = 0 ∨ w = 1 ∨ w = 2 ∨ w = 3 := by omega
  have h2 : q = 0 ∨ q = 1 ∨ q = 2 ∨ q = 3 := by omega
  rcases h1 with rfl | rfl | rfl | rfl <;> rcases h2 with rfl | rfl | rfl | rfl <;> decide
theorem leaf_nums (w q : Nat) (hw : w < 4) (hq : q < 4) : wrap64 ((w : Int) + (q : Int)) = ((w + q : Nat) : Int) ∧ wrap64 (((w + q : Nat) : Int) + 2) = ((w + q + 2 : Nat) : Int) ∧ Int.tmod ((w + q + 2 : Nat) : Int) 4 = (((w + q + 2) % 4 : Nat) : Int) ∧ Int.tmod ((w + q : Nat) : Int) 4 = (((w + q) % 4 : Nat) : Int) ∧ (w + q + 2) % 4 < 4 ∧ (w + q) % 4 < 4 := by
  refine ⟨by unfold wrap64; omega, by unfold wrap64; omega, ?_, ?_, by omega, by omega⟩
  · rw [Int.tmod_eq_emod_of_nonneg (by omega)]; rfl
  · rw [Int.tmod_eq_emod_of_nonneg (by omega)]; rfl
theorem leaf_cut (x : Nat) (hx : x < 4) : (if 0 ≤ (x : Int) then (if (x : Int) ≤ wrap64 ((x : Int) + 1) then (if wrap64 ((x : Int) + 1) ≤ 4 then some ((⟨#[101, 110, 119, 115]⟩ : ByteArray).extract (x : Int).toNat (wrap64 ((x : Int) + 1)).toNat) else none) else none) else none) = some ((⟨#[101, 110, 119, 115]⟩ : ByteArray).extract (x : Int).toNat ((x : Int) + 1).toNat) := by
  rw [show wrap64 ((x : Int) + 1) = (x : Int) + 1 by unfold wrap64; omega, if_pos (by omega), if_pos (by omega), if_pos (by omega)]
theorem impl_tidy : ∀ (t : T), t.ok → t.text.length ≤ 60 → ∀ (q : Nat) (b : Bool), q < 4 → ∀ k, t.text.length + 10 ≤ k → ∃ s, impl_term_tidy.f k (toI t).f0 (toI t).f1 b (q : Int) = some s ∧ nats s = (t.tidy q b).text := by
  intro t
  induction t with
  | leaf c =>
    intro ho hl q b hq k hk
    obtain ⟨m, rfl⟩ : ∃ m, k = m + 1 := ⟨k - 1, by omega⟩
    have ho : isLetter c := ho
    obtain ⟨w, hw, hc, hwf⟩ := way_of ho
    obtain ⟨e1, e2, e3, e4, hx, hy⟩ := leaf_nums w q hw hq
    obtain ⟨t1, t2⟩ := turns_way w q hw hq
    simp only [toI]
    rw [impl_term_tidy.f, if_pos (show (([] : List S61).length : Int) = 0 from rfl), hwf]
    simp only [Option.bind_some]
    rw [e1, e2, e3, e4, leaf_cut _ hx, leaf_cut _ hy]
    have q1 := letter_at _ hx
    have q2 := letter_at _ hy
    rw [← t2, ← hc] at q1
    rw [← t1, ← hc] at q2
    cases b with
    | true => exact ⟨_, if_pos rfl, q1⟩
    | false => exact ⟨_, if_neg (by decide), q2⟩
  | one c t ih =>
    intro ho hl q b hq k hk
    simp only [T.text, List.length_cons] at hk hl
    obtain ⟨m, rfl⟩ : ∃ m, k = m + 1 := ⟨k - 1, by omega⟩
    have hc : isSign c := ho.1
    unfold isSign at hc
    have h0 : (0 : Int) < (([toI t].length : Nat) : Int) := by simp
    have hg : rd_T61 [toI t] 0 = toI t := rfl
    simp only [toI]
    rw [impl_term_tidy.f, if_neg (by simp)]
    by_cases c1 : c = 45
    · obtain ⟨s, h1, h2⟩ := ih ho.2 (by omega) q (!b) hq m (by omega)
      rw [if_pos (show (c : Int) = 45 by omega), if_pos h0, hg, h1]
      refine ⟨s, rfl, ?_⟩
      conv => rhs; unfold T.tidy
      rw [if_pos c1, h2]
    · rw [if_neg (show ¬ (c : Int) = 45 by omega)]
      by_cases c2 : c = 64
      · obtain ⟨s, h1, h2⟩ := ih ho.2 (by omega) ((q + 1) % 4) b (by omega) m (by omega)
        have hw : Int.tmod (wrap64 ((q : Int) + 1)) 4 = (((q + 1) % 4 : Nat) : Int) := by
          rw [show wrap64 ((q : Int) + 1) = ((q + 1 : Nat) : Int) by unfold wrap64; omega, Int.tmod_eq_emod_of_nonneg (by omega)]
          rfl
        rw [if_pos (show (c : Int) = 64 by omega), if_pos h0, hg, hw, h1]
        refine ⟨s, rfl, ?_⟩
        conv => rhs; unfold T.tidy
        rw [if_neg c1, if_pos c2, h2]
      · obtain ⟨s, h1, h2⟩ := ih ho.2 (by omega) q b hq m (by omega)
        have hz := size_tx h2 (T.tidy_size t q b)
        rw [if_neg (show ¬ (c : Int) = 64 by omega), if_neg (show ¬ (c : Int) = 40 by omega)]
        simp only [Option.bind_some]
        rw [if_pos h0, hg, h1]
        simp only [Option.bind_some]
        rw [if_pos (by rw [size_lit1]; omega)]
        refine ⟨_, rfl, ?_⟩
        conv => rhs; unfold T.tidy
        rw [if_neg c1, if_neg c2, nats_append, nats_lit1 _ (by omega), h2]
        rfl
  | two x y ihx ihy =>
    intro ho hl q b hq k hk
    rw [T.text_two] at hk hl
    obtain ⟨m, rfl⟩ : ∃ m, k = m + 1 := ⟨k - 1, by omega⟩
    obtain ⟨s, h1, h2⟩ := ihx ho.1 (by omega) q b hq m (by omega)
    obtain ⟨u, h3, h4⟩ := ihy ho.2 (by omega) q b hq m (by omega)
    have hz := size_tx h2 (T.tidy_size x q b)
    have hz' := size_tx h4 (T.tidy_size y q b)
    have hg : rd_T61 [toI x, toI y] 0 = toI x := rfl
    have hh : rd_T61 [toI x, toI y] 1 = toI y := rfl
    have hl0 : (0 : Int) < (([toI x, toI y].length : Nat) : Int) := by simp
    have hl1 : (1 : Int) < (([toI x, toI y].length : Nat) : Int) := by simp
    have z1 : (⟨#[40]⟩ : ByteArray).size = 1 := rfl
    have z2 : (⟨#[43]⟩ : ByteArray).size = 1 := rfl
    simp only [toI]
    rw [impl_term_tidy.f, if_neg (by simp), if_neg (by decide), if_neg (by decide), if_pos rfl, if_pos hl0, hg, h1]
    simp only [Option.bind_some]
    rw [if_pos hl1, hh, h3]
    simp only [Option.bind_some]
    cases b with
    | true =>
      rw [if_pos rfl, if_pos (by omega), if_pos (by simp only [ByteArray.size_append]; omega), if_pos (by simp only [ByteArray.size_append]; omega), if_pos (by simp only [ByteArray.size_append]; omega)]
      refine ⟨_, rfl, ?_⟩
      rw [nats_two, h2, h4]
      rfl
    | false =>
      rw [if_neg (by decide), if_pos (by omega), if_pos (by simp only [ByteArray.size_append]; omega), if_pos (by simp only [ByteArray.size_append]; omega), if_pos (by simp only [ByteArray.size_append]; omega)]
      refine ⟨_, rfl, ?_⟩
      rw [nats_two, h2, h4]
      rfl
theorem tidy_tell_impl (s : ByteArray) (k : Nat) (hk : 300 ≤ k) : match termOf s with
    | none => impl_TermTidy.f k s = some (⟨#[]⟩, false)
    | some t => ∃ r, impl_TermTidy.f k s = some (r, true) ∧ nats r = (t.tidy 0 false).text := by
  have h := impl_of s
  unfold impl_TermTidy.f termOf
  by_cases hs : s.size ≤ 60
  · rw [if_pos hs] at h ⊢
    cases e : isTerm (nats s) with
    | none =>
      rw [e] at h
      obtain ⟨a, b, h⟩ := h
      rw [h]
      rfl
    | some t =>
      rw [e] at h
      simp only at h ⊢
      obtain ⟨ho, hl⟩ := isTerm_some.mp e
      have hz := nats_length s
      rw [hl] at hz
      obtain ⟨r, h1, h2⟩ := impl_tidy t ho (by omega) 0 false (by omega) k (by omega)
      have e0 : ((0 : Nat) : Int) = 0 := rfl
      rw [e0] at h1
      rw [h]
      simp only [Option.bind_some, if_true]
      rw [h1]
      exact ⟨r, rfl, h2⟩
  · rw [if_neg hs] at h ⊢
    obtain ⟨a, b, h⟩ := h
    rw [h]
    rfl
/-! ### the reader of draws -/
theorem wrap_id {x : Int} (h0 : -9223372036854775808 ≤ x) (h1 : x ≤ 9223372036854775807) : wrap64 x = x := by unfold wrap64; omega
theorem wf_u8 {l : List Int} (h : ∀ x ∈ l, (Lit.int .u8 x).wf = true) : ∀ x ∈ l, 0 ≤ x ∧ x ≤ 255 := by
  intro x hx
  have := h x hx
  simp [Lit.wf, IntKind.min, IntKind.max, IntKind.bits, IntKind.signed] at this
  omega
theorem rd_u8 {b : List Int} (hb : ∀ x ∈ b, 0 ≤ x ∧ x ≤ 255) (i : Int) (h0 : 0 ≤ i) (h1 : i < b.length) : 0 ≤ rd b i ∧ rd b i ≤ 255 := by
  have hl : i.toNat < b.length := by omega
  have : rd b i = b[i.toNat] := by
    unfold rd
    rw [List.getD_eq_getElem?_getD, List.getElem?_eq_getElem hl]
    rfl
  rw [this]
  exact hb _ (List.getElem_mem hl)
theorem xor_i64 (a b : Nat) (ha : a < 4611686018427387904) (hb : b < 4611686018427387904) : Go.bits .xor .i64 (a : Int) (b : Int) = ((a ^^^ b : Nat) : Int) := by
  have hx : a ^^^ b < 2 ^ 62 := Nat.xor_lt_two_pow (by omega) (by omega)
  have h1 : (BitVec.ofInt 64 (a : Int)).toNat = a := by
    rw [BitVec.ofInt_natCast, BitVec.toNat_ofNat]; exact Nat.mod_eq_of_lt (by omega)
  have h2 : (BitVec.ofInt 64 (b : Int)).toNat = b := by
    rw [BitVec.ofInt_natCast, BitVec.toNat_ofNat]; exact Nat.mod_eq_of_lt (by omega)
  show IntKind.i64.wrap ((BitVec.ofInt 64 (a : Int) ^^^ BitVec.ofInt 64 (b : Int)).toNat : Int) = _
  rw [BitVec.toNat_xor, h1, h2]
  generalize a ^^^ b = c at hx
  simp [IntKind.wrap, IntKind.bits, IntKind.signed]
  omega
theorem tmod_in {x n : Int} (hx : 0 ≤ x) (hn : 1 ≤ n) : 0 ≤ Int.tmod x n ∧ Int.tmod x n < n := by
  rw [Int.tmod_eq_emod_of_nonneg hx]
  exact ⟨Int.emod_nonneg _ (by omega), Int.emod_lt_of_pos _ (by omega)⟩
theorem tdiv_in {x n : Int} (hx : 0 ≤ x) (hn : 1 ≤ n) : 0 ≤ Int.tdiv x n ∧ Int.tdiv x n ≤ x := by
  rw [Int.tdiv_eq_ediv_of_nonneg hx]
  exact ⟨Int.ediv_nonneg hx (by omega), Int.ediv_le_self _ hx⟩
theorem pick_tells (b : List Int) (hb : ∀ x ∈ b, 0 ≤ x ∧ x ≤ 255) (hl : b.length ≤ 2000) (p n : Int) (hp : 0 ≤ p) (hp2 : p ≤ 1000000) (hn : 1 ≤ n) (hn2 : n ≤ 1000000) (k : Nat) (hk : 1 ≤ k) :
    ∃ r, spec_l6Rd_pick.f k b p n = some (r, p + 1) ∧ 0 ≤ r ∧ r < n := by
  obtain ⟨m, rfl⟩ : ∃ m, k = m + 1 := ⟨k - 1, by omega⟩
  unfold spec_l6Rd_pick.f
  have e0 : wrap64 (p + 1) = p + 1 := wrap_id (by omega) (by omega)
  have e1 : wrap64 (p + 1 - 1) = p := by rw [show p + 1 - 1 = p by omega]; exact wrap_id (by omega) (by omega)
  rw [if_neg (by omega), spec_l6Rd_pick.j0, e0, e1]
  by_cases hz : b.length = 0
  · rw [if_pos (by simp [hz])]
    exact ⟨0, rfl, by omega, by omega⟩
  · have hz2 : ((b.length : Int) == 0) = false := by rw [beq_eq_false_iff_ne]; omega
    rw [hz2, if_neg (by decide)]
    by_cases h : p < b.length
    · rw [if_pos h, if_pos hp, if_neg (by omega)]
      have hr := rd_u8 hb p hp h
      rw [wrap_id (x := rd b p) (by omega) (by omega)]
      exact ⟨_, rfl, tmod_in hr.1 hn⟩
    · rw [if_neg h, if_neg (by omega)]
      have hlen : (1 : Int) ≤ b.length := by omega
      have q1 := tmod_in hp hlen
      have e7 : wrap64 (p * 7) = p * 7 := wrap_id (by omega) (by omega)
      have e8 : wrap64 (p * 7 + 3) = p * 7 + 3 := wrap_id (by omega) (by omega)
      rw [e7, e8]
      have q2 := tmod_in (show (0 : Int) ≤ p * 7 + 3 by omega) hlen
      rw [if_pos q1.1, if_pos q1.2, if_pos q2.1, if_pos q2.2, if_neg (by omega)]
      have r1 := rd_u8 hb _ q1.1 q1.2
      have r2 := rd_u8 hb _ q2.1 q2.2
      have q3 := tdiv_in hp hlen
      generalize rd b (Int.tmod p b.length) = x1 at r1
      generalize rd b (Int.tmod (p * 7 + 3) b.length) = x2 at r2
      generalize Int.tdiv p b.length = x3 at q3
      rw [wrap_id (x := x1) (by omega) (by omega), wrap_id (x := x2) (by omega) (by omega), wrap_id (x := x3) (by omega) (by omega), wrap_id (x := x1 * 131) (by omega) (by omega), wrap_id (x := x2 * 1117) (by omega) (by omega),
        wrap_id (x := x1 * 131 + x2 * 1117) (by omega) (by omega), wrap_id (x := p * 29) (by omega) (by omega), wrap_id (x := x1 * 131 + x2 * 1117 + p * 29) (by omega) (by omega), wrap_id (x := x3 * 53) (by omega) (by omega),
        wrap_id (x := x1 * 131 + x2 * 1117 + p * 29 + x3 * 53) (by omega) (by omega)]
      obtain ⟨X, hX⟩ : ∃ X : Nat, x1 * 131 + x2 * 1117 + p * 29 + x3 * 53 = X := ⟨(x1 * 131 + x2 * 1117 + p * 29 + x3 * 53).toNat, by omega⟩
      rw [hX]
      have hXb : X < 1000000000 := by omega
      have q4 := tdiv_in (show (0 : Int) ≤ (X : Int) by omega) (show (1 : Int) ≤ 64 by omega)
      rw [wrap_id (x := Int.tdiv X 64) (by omega) (by omega)]
      obtain ⟨Y, hY⟩ : ∃ Y : Nat, Int.tdiv X 64 = Y := ⟨(Int.tdiv X 64).toNat, by omega⟩
      rw [hY, xor_i64 X Y (by omega) (by omega)]
      exact ⟨_, rfl, tmod_in (by omega) hn⟩
/-- The bytes that the reader takes. -/
theorem open_tells (l : List Int) (h : ∀ x ∈ l, 0 ≤ x ∧ x ≤ 255) : ∃ b, spec_l6Open.f l = some (b, 0) ∧ b.length ≤ 2000 ∧ ∀ x ∈ b, 0 ≤ x ∧ x ≤ 255 := by
  unfold spec_l6Open.f
  by_cases hl : (l.length : Int) > 2000
  · rw [if_pos hl, if_pos (by omega)]
    exact ⟨_, rfl, by rw [List.length_take]; omega, fun x hx => h x (List.mem_of_mem_take hx)⟩
  · rw [if_neg hl]
    exact ⟨_, rfl, by omega, h⟩
theorem of_tells (b : List Int) (hb : ∀ x ∈ b, 0 ≤ x ∧ x ≤ 255) (hl : b.length ≤ 2000) (p : Int) (hp : 0 ≤ p) (hp2 : p ≤ 1000000) (l : List ByteArray) (h1 : 1 ≤ l.length) (h2 : l.length ≤ 100) (B : Nat) (hB : ∀ x ∈ l, x.size ≤ B) (k : Nat) (hk : 1 ≤ k) :
    ∃ s, spec_l6Rd_of.f k b p l = some (s, p + 1) ∧ s.size ≤ B := by
  obtain ⟨r, hr, r0, r1⟩ := pick_tells b hb hl p l.length hp hp2 (by omega) (by omega) k hk
  unfold spec_l6Rd_of.f
  rw [hr]
  simp only [Option.bind_some]
  rw [if_pos r0, if_pos r1]
  refine ⟨_, rfl, ?_⟩
  have hlt : r.toNat < l.length := by omega
  have : rdOf ByteArray.empty l r = l[r.toNat] := by
    unfold rdOf
    rw [List.getD_eq_getElem?_getD, List.getElem?_eq_getElem hlt]
    rfl
  rw [this]
  exact hB _ (List.getElem_mem hlt)
theorem term_last (b : List Int) (hb : ∀ x ∈ b, 0 ≤ x ∧ x ≤ 255) (hl : b.length ≤ 2000) (p : Int) (hp : 0 ≤ p) (hp2 : p ≤ 900000) (s : ByteArray) (Z : Nat) (hs : s.size ≤ Z) (hZ : Z ≤ 1000) (k : Nat) (hk : 2 ≤ k) :
    ∃ t q, spec_l92Term.j1 k s b p = some (t, q) ∧ p ≤ q ∧ q ≤ p + 2 ∧ t.size ≤ Z + 2 := by
  obtain ⟨m, rfl⟩ : ∃ m, k = m + 1 := ⟨k - 1, by omega⟩
  rw [spec_l92Term.j1]
  obtain ⟨r, hr, r0, r1⟩ := pick_tells b hb hl p 7 hp (by omega) (by omega) (by omega) m (by omega)
  rw [hr]
  simp only [Option.bind_some]
  split
  · obtain ⟨u, hu, hz⟩ := of_tells b hb hl (p + 1) (by omega) (by omega) ([(⟨#[45]⟩ : ByteArray), (⟨#[64]⟩ : ByteArray), (⟨#[64, 64]⟩ : ByteArray), (⟨#[45, 64]⟩ : ByteArray)] : List ByteArray) (by decide) (by decide) 2 (by decide) m (by omega)
    rw [hu]
    simp only [Option.bind_some]
    rw [if_pos (by omega)]
    exact ⟨_, _, rfl, by omega, by omega, by rw [ByteArray.size_append]; omega⟩
  · split
    · obtain ⟨u, hu, hz⟩ := of_tells b hb hl (p + 1) (by omega) (by omega) ([(⟨#[50]⟩ : ByteArray), (⟨#[51]⟩ : ByteArray), (⟨#[52]⟩ : ByteArray), (⟨#[50, 64]⟩ : ByteArray)] : List ByteArray) (by decide) (by decide) 2 (by decide) m (by omega)
      rw [hu]
      simp only [Option.bind_some]
      rw [if_pos (by omega)]
      exact ⟨_, _, rfl, by omega, by omega, by rw [ByteArray.size_append]; omega⟩
    · exact ⟨_, _, rfl, by omega, by omega, by omega⟩
theorem term_tells (b : List Int) (hb : ∀ x ∈ b, 0 ≤ x ∧ x ≤ 255) (hl : b.length ≤ 2000) : ∀ (d : Nat), d ≤ 3 → ∃ N Z : Nat, N ≤ 5 * 3 ^ (d + 1) ∧ Z ≤ 5 * 3 ^ (d + 1) ∧ ∀ (k : Nat), 4 + 2 * d ≤ k → ∀ p : Int, 0 ≤ p → p ≤ 100000 - 1000 * (d : Int) →
    ∃ s q, spec_l92Term.f k b p (d : Int) = some (s, q) ∧ p ≤ q ∧ q ≤ p + N ∧ s.size ≤ Z := by
  intro d
  induction d with
  | zero =>
    intro _
    refine ⟨3, 3, by decide, by decide, fun k hk p hp hp2 => ?_⟩
    obtain ⟨m, rfl⟩ : ∃ m, k = m + 2 := ⟨k - 2, by omega⟩
    rw [spec_l92Term.f]
    obtain ⟨u, hu, hz⟩ := of_tells b hb hl p hp (by omega) [(⟨#[110]⟩ : ByteArray), (⟨#[101]⟩ : ByteArray), (⟨#[115]⟩ : ByteArray), (⟨#[119]⟩ : ByteArray), (⟨#[101]⟩ : ByteArray)] (by decide) (by decide) 1 (by decide) (m + 1) (by omega)
    rw [hu]
    simp only [Option.bind_some]
    rw [if_neg (by omega), spec_l92Term.j0, if_neg (by decide)]
    obtain ⟨t, q, ht, h1, h2, h3⟩ := term_last b hb hl (p + 1) (by omega) (by omega) u 1 hz (by omega) m (by omega)
    exact ⟨t, q, ht, by omega, by omega, by omega⟩
  | succ d ih =>
    intro hd
    obtain ⟨N, Z, hN, hZ, hih⟩ := ih (by omega)
    have h3 : 3 ^ (d + 1 + 1) = 3 * 3 ^ (d + 1) := by rw [Nat.pow_succ, Nat.mul_comm]
    have hpow : 3 ≤ 3 ^ (d + 1) := Nat.pow_le_pow_right (n := 3) (by omega) (show 1 ≤ d + 1 by omega)
    have hpow2 : 3 ^ (d + 1) ≤ 3 ^ 3 := Nat.pow_le_pow_right (n := 3) (by omega) (by omega)
    have e27 : 3 ^ 3 = 27 := rfl
    rw [e27] at hpow2
    refine ⟨2 * N + 4, 2 * Z + 5, by omega, by omega, fun k hk p hp hp2 => ?_⟩
    obtain ⟨m, rfl⟩ : ∃ m, k = m + 2 := ⟨k - 2, by omega⟩
    rw [spec_l92Term.f]
    obtain ⟨u, hu, hz⟩ := of_tells b hb hl p hp (by omega) [(⟨#[110]⟩ : ByteArray), (⟨#[101]⟩ : ByteArray), (⟨#[115]⟩ : ByteArray), (⟨#[119]⟩ : ByteArray), (⟨#[101]⟩ : ByteArray)] (by decide) (by decide) 1 (by decide) (m + 1) (by omega)
    rw [hu]
    simp only [Option.bind_some]
    rw [if_pos (by omega)]
    obtain ⟨r, hr, r0, r1⟩ := pick_tells b hb hl (p + 1) 4 (by omega) (by omega) (by omega) (by omega) (m + 1) (by omega)
    rw [hr]
    simp only [Option.bind_some]
    rw [spec_l92Term.j0]
    have hw : wrap64 (((d + 1 : Nat) : Int) - 1) = (d : Int) := by rw [show (((d + 1 : Nat) : Int) - 1) = (d : Int) by omega]; exact wrap_id (by omega) (by omega)
    rw [hw]
    by_cases hrr : r > 0
    · rw [if_pos (decide_eq_true hrr)]
      obtain ⟨s1, q1, a1, a2, a3, a4⟩ := hih m (by omega) (p + 1 + 1) (by omega) (by omega)
      rw [a1]
      simp only [Option.bind_some]
      have z1 : (⟨#[40]⟩ : ByteArray).size = 1 := rfl
      have z2 : (⟨#[43]⟩ : ByteArray).size = 1 := rfl
      have z3 : (⟨#[41]⟩ : ByteArray).size = 1 := rfl
      rw [if_pos (by omega), if_pos (by rw [ByteArray.size_append]; omega)]
      obtain ⟨s2, q2, b1, b2, b3, b4⟩ := hih m (by omega) q1 (by omega) (by omega)
      rw [b1]
      simp only [Option.bind_some]
      rw [if_pos (by simp only [ByteArray.size_append]; omega), if_pos (by simp only [ByteArray.size_append]; omega)]
      obtain ⟨t, q, ht, h1, h2, h3⟩ := term_last b hb hl q2 (by omega) (by omega) (((((⟨#[40]⟩ : ByteArray) ++ s1) ++ (⟨#[43]⟩ : ByteArray)) ++ s2) ++ (⟨#[41]⟩ : ByteArray)) (2 * Z + 3) (by simp only [ByteArray.size_append]; omega) (by omega) m (by omega)
      exact ⟨t, q, ht, by omega, by omega, by omega⟩
    · rw [if_neg (by simpa using hrr)]
      obtain ⟨t, q, ht, h1, h2, h3⟩ := term_last b hb hl (p + 1 + 1) (by omega) (by omega) u 1 hz (by omega) m (by omega)
      exact ⟨t, q, ht, by omega, by omega, by omega⟩
theorem text_tells (b : List Int) (hb : ∀ x ∈ b, 0 ≤ x ∧ x ≤ 255) (hl : b.length ≤ 2000) (p : Int) (hp : 0 ≤ p) (hp2 : p ≤ 10000) (k : Nat) (hk : 10 ≤ k) :
    ∃ s q, spec_l92Text.f k b p = some (s, q) ∧ p ≤ q ∧ q ≤ p + 1000 ∧ s.size ≤ 1000 := by
  unfold spec_l92Text.f
  obtain ⟨r, hr, r0, r1⟩ := pick_tells b hb hl p 5 hp (by omega) (by omega) (by omega) k (by omega)
  rw [hr]
  simp only [Option.bind_some]
  split
  · obtain ⟨u, hu, hz⟩ := of_tells b hb hl (p + 1) (by omega) (by omega) ([(⟨#[52, 64, 101]⟩ : ByteArray), (⟨#[40, 50, 101, 43, 40, 110, 43, 40, 50, 119, 43, 115, 41, 41, 41]⟩ : ByteArray), (⟨#[40, 40, 101, 43, 110, 41, 43, 45, 40, 101, 43, 110, 41, 41]⟩ : ByteArray), (⟨#[57, 40, 101, 43, 110, 41]⟩ : ByteArray), (⟨#[57, 57, 110]⟩ : ByteArray), (⟨#[57, 57, 57, 110]⟩ : ByteArray), (⟨#[40, 51, 110, 43, 40, 52, 101, 43, 40, 51, 115, 43, 52, 119, 41, 41, 41]⟩ : ByteArray)] : List ByteArray) (by decide) (by decide) 100 (by decide) k (by omega)
    rw [hu]
    exact ⟨_, _, rfl, by simp only; omega, by simp only; omega, by simp only; omega⟩
  · obtain ⟨N, Z, hN, hZ, hih⟩ := term_tells b hb hl 3 (by omega)
    have e81 : 5 * 3 ^ (3 + 1) = 405 := rfl
    rw [e81] at hN hZ
    obtain ⟨s1, q1, a1, a2, a3, a4⟩ := hih k (by omega) (p + 1) (by omega) (by omega)
    have e3 : ((3 : Nat) : Int) = 3 := rfl
    rw [e3] at a1
    rw [a1]
    simp only [Option.bind_some]
    obtain ⟨r', hr', r0', r1'⟩ := pick_tells b hb hl q1 24 (by omega) (by omega) (by omega) (by omega) k (by omega)
    rw [hr']
    simp only [Option.bind_some]
    split
    · obtain ⟨u, hu, hz⟩ := of_tells b hb hl (q1 + 1) (by omega) (by omega) ([(⟨#[41]⟩ : ByteArray), (⟨#[110]⟩ : ByteArray), (⟨#[43]⟩ : ByteArray)] : List ByteArray) (by decide) (by decide) 100 (by decide) k (by omega)
      rw [hu]
      simp only [Option.bind_some]
      rw [if_pos (by omega)]
      exact ⟨_, _, rfl, by omega, by omega, by rw [ByteArray.size_append]; omega⟩
    · split
      · obtain ⟨u, hu, hz⟩ := of_tells b hb hl (q1 + 1) (by omega) (by omega) ([(⟨#[]⟩ : ByteArray), (⟨#[120]⟩ : ByteArray), (⟨#[40, 110, 41]⟩ : ByteArray), (⟨#[40, 110, 43, 101]⟩ : ByteArray), (⟨#[45]⟩ : ByteArray), (⟨#[49, 110]⟩ : ByteArray), (⟨#[40, 40, 110, 43, 101, 41, 115, 41]⟩ : ByteArray)] : List ByteArray) (by decide) (by decide) 100 (by decide) k (by omega)
        rw [hu]
        exact ⟨_, _, rfl, by simp only; omega, by simp only; omega, by simp only; omega⟩
      · exact ⟨_, _, rfl, by omega, by omega, by omega⟩
theorem word_tells (l : List Int) (h : ∀ x ∈ l, (Lit.int .u8 x).wf = true) (k : Nat) (hk : 10 ≤ k) : ∃ s, spec_l92Word.f k l = some s ∧ s.size ≤ 1000 := by
  obtain ⟨b, h1, h2, h3⟩ := open_tells l (wf_u8 h)
  unfold spec_l92Word.f
  rw [h1]
  simp only [Option.bind_some]
  obtain ⟨s, q, a1, a2, a3, a4⟩ := text_tells b h3 h2 0 (by omega) (by omega) k hk
  rw [a1]
  exact ⟨s, rfl, a4⟩
/-! ### a text, cut at a byte -/
def pieces (c : UInt8) : List UInt8 → List (List UInt8)
  | [] => [[]]
  | b :: r => if b = c then [] :: pieces c r else (match pieces c r with
    | [] => [[b]]
    | q :: qs => (b :: q) :: qs)
theorem pieces_ne (c : UInt8) : ∀ s, pieces c s ≠ []
  | [] => by simp [pieces]
  | b :: r => by
    unfold pieces
    split
    · simp
    · split <;> simp
theorem pieces_sep (c : UInt8) (r : List UInt8) : pieces c (c :: r) = [] :: pieces c r := by
  rw [pieces, if_pos rfl]
theorem pieces_head {b c : UInt8} (r : List UInt8) (hb : b ≠ c) : ∃ q qs, pieces c r = q :: qs ∧ pieces c (b :: r) = (b :: q) :: qs := by
  cases h : pieces c r with
  | nil => exact absurd h (pieces_ne c r)
  | cons q qs => exact ⟨q, qs, rfl, by rw [pieces, if_neg hb, h]⟩
theorem splitc_head {b c : UInt8} (hb : b ≠ c) (r : List UInt8) : ∀ k, ∃ q qs, Lib.splitK [c] 0 k r = q :: qs ∧ Lib.splitK [c] 0 k (b :: r) = (b :: q) :: qs
  | 0 => ⟨r, [], rfl, rfl⟩
  | k + 1 => by
    have hi : Lib.index (b :: r) [c] = if Lib.index r [c] == -1 then -1 else Lib.index r [c] + 1 := by
      rw [Lib.index, if_neg (by simp [List.isPrefixOf]; exact fun h => hb h.symm)]
    unfold Lib.splitK
    by_cases h : Lib.index r [c] = -1
    · rw [hi, h]
      exact ⟨r, [], by simp, by simp⟩
    · have hge : -1 ≤ Lib.index r [c] := by
        rw [Lib.index_one]
        exact Lib.indexByte_ge _ _
      obtain ⟨i, e⟩ : ∃ i : Nat, Lib.index r [c] = (i : Int) := ⟨(Lib.index r [c]).toNat, by omega⟩
      have h1 : (Lib.index r [c] == -1) = false := beq_eq_false_iff_ne.mpr h
      have h2 : (Lib.index (b :: r) [c] == -1) = false := by
        rw [hi, h1, e]
        exact beq_eq_false_iff_ne.mpr (by simp; omega)
      have h3 : Lib.index (b :: r) [c] = ((i + 1 : Nat) : Int) := by rw [hi, h1, e]; simp
      rw [h1, h2, h3, e]
      refine ⟨_, _, rfl, ?_⟩
      simp only [Int.toNat_natCast, Nat.add_zero]
      rfl
theorem split_pieces (c : UInt8) : ∀ s : List UInt8, Lib.splitK [c] 0 (s.count c) s = pieces c s
  | [] => rfl
  | b :: r => by
    by_cases hb : b = c
    · subst hb
      rw [pieces_sep, ← split_pieces b r, List.count_cons_self]
      have h0 : Lib.index (b :: r) [b] = 0 := by rw [Lib.index, if_pos (by simp [List.isPrefixOf])]
      conv => lhs; unfold Lib.splitK
      rw [h0]
      rfl
    · rw [List.count_cons_of_ne hb]
      obtain ⟨q, qs, h1, h2⟩ := splitc_head hb r (r.count c)
      obtain ⟨q', qs', h3, h4⟩ := pieces_head r hb
      rw [split_pieces c r, h3] at h1
      injection h1 with e1 e2
      rw [h2, h4, e1, e2]
theorem pieces_app (c : UInt8) : ∀ (x : List UInt8), (∀ b ∈ x, b ≠ c) → ∀ t, pieces c (x ++ c :: t) = x :: pieces c t
  | [], _, t => pieces_sep c t
  | b :: x, h, t => by
    obtain ⟨q, qs, h1, h2⟩ := pieces_head (x ++ c :: t) (h b (List.mem_cons_self ..))
    rw [pieces_app c x (fun d hd => h d (List.mem_cons_of_mem _ hd)) t] at h1
    injection h1 with e1 e2
    rw [List.cons_append, h2, e1, e2]
theorem pieces_one (c : UInt8) : ∀ (x : List UInt8), (∀ b ∈ x, b ≠ c) → pieces c x = [x]
  | [], _ => rfl
  | b :: x, h => by
    obtain ⟨q, qs, h1, h2⟩ := pieces_head x (h b (List.mem_cons_self ..))
    rw [pieces_one c x (fun d hd => h d (List.mem_cons_of_mem _ hd))] at h1
    injection h1 with e1 e2
    rw [h2, ← e1, ← e2]
theorem pieces_len (c : UInt8) : ∀ s : List UInt8, (pieces c s).length ≤ s.length + 1
  | [] => by simp [pieces]
  | b :: r => by
    have ih := pieces_len c r
    by_cases hb : b = c
    · subst hb
      rw [pieces_sep, List.length_cons, List.length_cons]
      omega
    · obtain ⟨q, qs, h1, h2⟩ := pieces_head r hb
      rw [h2]
      rw [h1] at ih
      simp only [List.length_cons] at ih ⊢
      omega
theorem pieces_small (c : UInt8) : ∀ s : List UInt8, ∀ p ∈ pieces c s, p.length ≤ s.length
  | [], p, hp => by
    obtain rfl : p = [] := by simpa [pieces] using hp
    simp
  | b :: r, p, hp => by
    by_cases hb : b = c
    · subst hb
      rw [pieces_sep] at hp
      rcases List.mem_cons.mp hp with rfl | hp
      · simp
      · have := pieces_small b r p hp
        rw [List.length_cons]
        omega
    · obtain ⟨q, qs, h1, h2⟩ := pieces_head r hb
      rw [h2] at hp
      rcases List.mem_cons.mp hp with rfl | hp
      · have := pieces_small c r q (by rw [h1]; exact List.mem_cons_self)
        simp only [List.length_cons]
        omega
      · have := pieces_small c r p (by rw [h1]; exact List.mem_cons_of_mem _ hp)
        rw [List.length_cons]
        omega
def bytes (l : List UInt8) : ByteArray := ⟨l.toArray⟩
theorem bytes_back (s : ByteArray) : bytes s.data.toList = s := by
  cases s
  rfl
theorem bytes_size (l : List UInt8) : (bytes l).size = l.length := by
  show l.toArray.size = l.length
  simp
theorem back_size (s : ByteArray) : s.data.toList.length = s.size := Array.length_toList
theorem bytes_app (a b : List UInt8) : bytes a ++ bytes b = bytes (a ++ b) := by
  rw [← bytes_back (bytes a ++ bytes b), ByteArray.data_append, Array.toList_append]
  rfl
theorem split_bytes (c : UInt8) (s : ByteArray) (hs : s.size ≤ 1048577) : strings_Split.f s (⟨#[c]⟩ : ByteArray) = some ((pieces c s.data.toList).map bytes) := by
  unfold strings_Split.f
  rw [if_pos ⟨rfl, by omega⟩]
  congr 1
  have h : (Lib.splitB ⟨#[c]⟩ 0 (Lib.countB s ⟨#[c]⟩) s).map (·.data.toList) = pieces c s.data.toList := by
    rw [Lib.splitB_data]
    show Lib.splitK [c] 0 (Lib.count s.data.toList [c]) s.data.toList = _
    rw [Lib.count_one]
    exact split_pieces c _
  rw [← h, List.map_map]
  conv => lhs; rw [← List.map_id (Lib.splitB ⟨#[c]⟩ 0 (Lib.countB s ⟨#[c]⟩) s)]
  apply List.map_congr_left
  intro p _
  exact (bytes_back p).symm
theorem bytes_inj {a b : ByteArray} (h : a.data.toList = b.data.toList) : a = b := by rw [← bytes_back a, ← bytes_back b, h]
/-! ### a line's first word -/
theorem indexB_here (c : UInt8) (r : List UInt8) : Lib.indexByte (c :: r) c = 0 := by
  unfold Lib.indexByte
  rw [if_pos (beq_self_eq_true c)]
theorem indexB_pre (c : UInt8) (r : List UInt8) : ∀ x : List UInt8, (∀ b ∈ x, b ≠ c) → Lib.indexByte (x ++ c :: r) c = (x.length : Int)
  | [], _ => indexB_here c r
  | b :: x, h => by
    have ih := indexB_pre c r x (fun d hd => h d (List.mem_cons_of_mem _ hd))
    rw [List.cons_append]
    unfold Lib.indexByte
    rw [if_neg (by rw [beq_iff_eq]; exact h b (List.mem_cons_self ..)), ih, if_neg (by rw [beq_iff_eq]; omega), List.length_cons]
    omega
theorem indexB_none (c : UInt8) : ∀ x : List UInt8, (∀ b ∈ x, b ≠ c) → Lib.indexByte x c = -1
  | [], _ => rfl
  | b :: x, h => by
    unfold Lib.indexByte
    rw [if_neg (by rw [beq_iff_eq]; exact h b (List.mem_cons_self ..)), indexB_none c x (fun d hd => h d (List.mem_cons_of_mem _ hd))]
    rfl
theorem cut_word (x r : List UInt8) (h : ∀ b ∈ x, b ≠ 32) : strings_Cut.f (bytes (x ++ 32 :: r)) = (bytes x, bytes r, true) := by
  have hd : (bytes (x ++ 32 :: r)).data.toList = x ++ 32 :: r := by simp [bytes]
  unfold strings_Cut.f
  rw [hd, indexB_pre 32 r x h, if_pos (by omega), Int.toNat_natCast]
  have e1 : (bytes (x ++ 32 :: r)).extract 0 x.length = bytes x := by
    rw [← bytes_back ((bytes (x ++ 32 :: r)).extract 0 x.length), Lib.extract_data, hd]
    simp
  have e2 : (bytes (x ++ 32 :: r)).extract (x.length + 1) (bytes (x ++ 32 :: r)).size = bytes r := by
    rw [← bytes_back ((bytes (x ++ 32 :: r)).extract (x.length + 1) _), Lib.extract_data, hd, bytes_size]
    congr 1
    rw [List.drop_append, List.drop_eq_nil_of_le (by omega), show x.length + 1 - x.length = 1 by omega]
    simp only [List.length_append, List.length_cons, List.drop_succ_cons, List.drop_zero, List.nil_append]
    exact List.take_of_length_le (by omega)
  rw [e1, e2]
theorem cut_bare (x : List UInt8) (h : ∀ b ∈ x, b ≠ 32) : strings_Cut.f (bytes x) = (bytes x, ⟨#[]⟩, false) := by
  have hd : (bytes x).data.toList = x := by simp [bytes]
  unfold strings_Cut.f
  rw [hd, indexB_none 32 x h, if_neg (by omega)]
/-! ### a script's lines, one behind the other -/
def lineOf (k : Nat) (l : List Int) (p : ByteArray) : Option (ByteArray × List Int) := if (strings_Cut.f p).2.2 = true then impl_withRest.f k l (strings_Cut.f p).1 (strings_Cut.f p).2.1 else impl_withoutRest.f k l (strings_Cut.f p).1
theorem line_rounds {k k' : Nat} (h : k ≤ k') {l : List Int} {p : ByteArray} {x : ByteArray × List Int} (hx : lineOf k l p = some x) : lineOf k' l p = some x := by
  unfold lineOf at hx ⊢
  by_cases c : (strings_Cut.f p).2.2 = true
  · rw [if_pos c] at hx ⊢
    exact at_rounds (fun k => impl_withRest.mono _ _ _ k) h hx
  · rw [if_neg c] at hx ⊢
    exact at_rounds (fun k => impl_withoutRest.mono _ _ k) h hx
def runOf (k : Nat) : List ByteArray → List UInt8 → List Int → Option (List UInt8 × List Int)
  | [], acc, l => some (acc, l)
  | p :: r, acc, l => (lineOf k l p).bind fun x => if x.1.size ≤ 1700 then runOf k r (acc ++ (x.1 ++ (⟨#[10]⟩ : ByteArray)).data.toList) x.2 else none
theorem run_l0 (K : Nat) (ls : List ByteArray) (h6 : ls.length ≤ 601) (hp : ∀ p ∈ ls, p.size ≤ 600) (res : List UInt8 × List Int) : ∀ (d k i : Nat) (acc : List UInt8) (l : List Int), i + d = ls.length → K + d + 1 ≤ k → acc.length ≤ i * 1701 → runOf K (ls.drop i) acc l = some res →
    impl_Execute.l0 k ls acc l (i : Int) = some res := by
  intro d
  induction d with
  | zero =>
    intro k i acc l hi hk ha hr
    obtain ⟨m, rfl⟩ : ∃ m, k = m + 1 := ⟨k - 1, by omega⟩
    rw [List.drop_eq_nil_of_le (by omega)] at hr
    rw [impl_Execute.l0, if_neg (by omega)]
    exact hr
  | succ d ih =>
    intro k i acc l hi hk ha hr
    obtain ⟨m, rfl⟩ : ∃ m, k = m + 1 := ⟨k - 1, by omega⟩
    have hil : i < ls.length := by omega
    have hrd : rdOf ByteArray.empty ls (i : Int) = ls[i] := by simp [rdOf, hil]
    rw [List.drop_eq_getElem_cons hil, runOf] at hr
    obtain ⟨x, h1, h2⟩ := Option.bind_eq_some_iff.mp hr
    have hx := line_rounds (show K ≤ m by omega) h1
    have hpi := hp _ (List.getElem_mem hil)
    split at h2
    · next hs =>
      have hlen : (acc ++ (x.1 ++ (⟨#[10]⟩ : ByteArray)).data.toList).length ≤ (i + 1) * 1701 := by
        have e : (x.1 ++ (⟨#[10]⟩ : ByteArray)).data.toList.length = x.1.size + 1 := by
          rw [back_size]
          exact ByteArray.size_append
        rw [List.length_append, e]
        omega
      have hw : wrap64 ((i : Int) + 1) = ((i + 1 : Nat) : Int) := by unfold wrap64; omega
      have g := ih m (i + 1) _ x.2 (by omega) (by omega) hlen h2
      rw [impl_Execute.l0, if_pos (by omega), if_pos (by omega), hrd, if_pos (by omega), if_pos (by omega), hw]
      unfold lineOf at hx
      by_cases c : (strings_Cut.f ls[i]).2.2 = true
      · rw [if_pos c] at hx ⊢
        rw [hx, Option.bind_some, if_pos (by omega)]
        exact g
      · rw [if_neg c] at hx ⊢
        rw [hx, Option.bind_some, if_pos (by omega)]
        exact g
    · cases h2
theorem itoa_few : ∀ n : Nat, n < 10 → (Lib.itoa (n : Int)) = [(n.toUInt8 + 48)] := by decide +kernel
/-- A script that ends with a newline, at most as long as is told. -/
theorem exec_tells (K : Nat) (s : List UInt8) (h6 : s.length ≤ 600) (acc : List UInt8) (l : List Int) (hl : l.length ≤ 9) (ha : acc.length ≤ 1048576)
    (hr : runOf K (((pieces 10 s).take ((pieces 10 s).length - 1)).map bytes) [] [3, 4, 5] = some (acc, l)) (k : Nat) (hk : K + 602 ≤ k) :
    impl_Execute.f k (bytes s) = some (bytes (acc ++ [115, 116, 105, 99, 107, 115, 32, l.length.toUInt8 + 48, 10])) := by
  have hd : (bytes s).data.toList = s := by simp [bytes]
  have hpl := pieces_len 10 s
  have hpn : 1 ≤ (pieces 10 s).length := by
    have := pieces_ne 10 s
    cases h : pieces 10 s with
    | nil => exact absurd h this
    | cons => simp
  unfold impl_Execute.f
  rw [if_neg (by rw [bytes_size]; omega), split_bytes 10 _ (by rw [bytes_size]; omega), hd, Option.bind_some, List.length_map, if_pos (by omega), ← List.map_take]
  have hlen : (((pieces 10 s).take ((pieces 10 s).length - 1)).map bytes).length ≤ 600 := by
    rw [List.length_map, List.length_take]
    omega
  have h0 := run_l0 K _ (by omega) (by
    intro p hp
    obtain ⟨q, hq, rfl⟩ := List.mem_map.mp hp
    rw [bytes_size]
    have := pieces_small 10 s q (List.mem_of_mem_take hq)
    omega) _ _ k 0 [] [3, 4, 5] (Nat.zero_add _) (by omega) (by simp) hr
  rw [Int.ofNat_zero] at h0 
  rw [h0, Option.bind_some, if_pos ha]
  dsimp only
  unfold strconv_Itoa.f
  rw [if_pos (show -1000 ≤ (l.length : Int) ∧ (l.length : Int) ≤ 1000 by omega), Option.bind_some, itoa_few l.length (by omega), if_pos (by show (1 : Nat) ≤ 100; decide)]
  rfl
theorem text_bytes : ∀ (t : T), t.ok → ∀ c ∈ t.text, c ≠ 10
  | .leaf c, h, d, hd => by
    have h : isLetter c := h
    obtain rfl : d = c := by simpa [T.text] using hd
    unfold isLetter at h
    omega
  | .one c t, h, d, hd => by
    simp only [T.text, List.mem_cons] at hd
    have h1 : isSign c := h.1
    rcases hd with rfl | hd
    · unfold isSign at h1
      omega
    · exact text_bytes t h.2 d hd
  | .two a b, h, d, hd => by
    simp only [T.text, List.mem_cons, List.mem_append, List.not_mem_nil, or_false] at hd
    rcases hd with rfl | hd | rfl | hd | rfl
    · omega
    · exact text_bytes a h.1 d hd
    · omega
    · exact text_bytes b h.2 d hd
    · omega
theorem termOf_is {s : ByteArray} {t : T} (h : termOf s = some t) : t.ok ∧ nats s = t.text ∧ s.size ≤ 60 := by
  unfold termOf at h
  split at h
  · next hs =>
    have := isTerm_some.mp h
    exact ⟨this.1, this.2, hs⟩
  · cases h
theorem tidy_line (s r : ByteArray) (k : Nat) (h6 : s.size ≤ 60) (hr6 : r.size ≤ 60) (hn : ∀ b ∈ s.data.toList, b ≠ 10) (h : impl_TermTidy.f k s = some (r, true)) :
    impl_Execute.f (k + 602) (((⟨#[116, 105, 100, 121, 32]⟩ : ByteArray) ++ s) ++ (⟨#[10]⟩ : ByteArray)) = some (r ++ (⟨#[10, 115, 116, 105, 99, 107, 115, 32, 51, 10]⟩ : ByteArray)) := by
  have hc : strings_Cut.f (bytes ([116, 105, 100, 121, 32] ++ s.data.toList)) = (⟨#[116, 105, 100, 121]⟩, s, true) := by
    have := cut_word [116, 105, 100, 121] s.data.toList (by decide)
    rw [bytes_back] at this
    exact this
  have e : ((⟨#[116, 105, 100, 121, 32]⟩ : ByteArray) ++ s) ++ (⟨#[10]⟩ : ByteArray) = bytes (([116, 105, 100, 121, 32] ++ s.data.toList) ++ [10]) := by
    rw [← bytes_app, ← bytes_app, bytes_back]
    rfl
  have h5 : ∀ b ∈ ([116, 105, 100, 121, 32] : List UInt8), b ≠ 10 := by decide
  have hb : ∀ b ∈ ([116, 105, 100, 121, 32] ++ s.data.toList : List UInt8), b ≠ 10 := by
    intro b hb
    rcases List.mem_append.mp hb with hb | hb
    · exact h5 b hb
    · exact hn b hb
  have hz : ([116, 105, 100, 121, 32] ++ s.data.toList : List UInt8).length = 5 + s.size := by
    rw [List.length_append, back_size]
    rfl
  obtain ⟨y, hy⟩ : ∃ y, y = ([116, 105, 100, 121, 32] ++ s.data.toList : List UInt8) := ⟨_, rfl⟩
  rw [← hy] at hc e hb hz
  clear hy
  have hp : pieces 10 (y ++ [10]) = [y, []] := by
    rw [pieces_app 10 _ hb]
    rfl
  have hl : lineOf k [3, 4, 5] (bytes y) = some (r, [3, 4, 5]) := by
    unfold lineOf
    rw [hc, if_pos rfl]
    unfold impl_withRest.f
    rw [if_pos rfl]
    simp only
    rw [h, Option.bind_some]
    unfold impl_written.f
    rw [if_pos rfl, Option.bind_some]
  have hz2 : (y ++ [10] : List UInt8).length ≤ 600 := by
    rw [List.length_append, hz]
    simp only [List.length_cons, List.length_nil]
    omega
  have hrs : (r ++ (⟨#[10]⟩ : ByteArray)).size = r.size + 1 := ByteArray.size_append
  obtain ⟨acc, hacc⟩ : ∃ acc, acc = (r ++ (⟨#[10]⟩ : ByteArray)).data.toList := ⟨_, rfl⟩
  have hal : acc.length ≤ 1048576 := by
    rw [hacc, back_size]
    omega
  have hrun : runOf k (((pieces 10 (y ++ [10])).take ((pieces 10 (y ++ [10])).length - 1)).map bytes) [] [3, 4, 5] = some (acc, [3, 4, 5]) := by
    rw [hp]
    show runOf k [bytes y] [] [3, 4, 5] = _
    rw [runOf, hl, Option.bind_some, if_pos (show r.size ≤ 1700 by omega), runOf, List.nil_append, hacc]
  rw [e, exec_tells k _ hz2 acc [3, 4, 5] (by decide) hal hrun (k + 602) (by omega), ← bytes_app, hacc, bytes_back, show bytes [115, 116, 105, 99, 107, 115, 32, ([3, 4, 5] : List Int).length.toUInt8 + 48, 10] = bytes [115, 116, 105, 99, 107, 115, 32, 51, 10] from rfl]
  congr 1
  apply bytes_inj
  simp only [ByteArray.data_append, Array.toList_append, List.append_assoc]
  rfl
theorem FnExecuteTidy : laws_FnExecuteTidy.Pure := by
  intro l h1 h2 h3
  obtain ⟨k, hk⟩ : ∃ k, k = 1999 := ⟨_, rfl⟩
  refine ⟨k + 602, ?_⟩
  unfold laws_FnExecuteTidy.f
  by_cases hl : (l.length : Int) > 1048576
  · rw [if_pos hl]
  · rw [if_neg hl]
    obtain ⟨s, hs, hz⟩ := word_tells l h3 (k + 602) (by omega)
    unfold spec_DrawTermTidy.f
    rw [hs]
    simp only [Option.bind_some]
    have a1 := tidy_tell_spec s (k + 602) (by omega)
    have a2 := tidy_tell_impl s (k + 602) (by omega)
    have a5 := tidy_tell_impl s k (by omega)
    cases e : termOf s with
    | none =>
      rw [e] at a1 a2
      simp only at a1 a2
      rw [a1, a2]
      simp only [Option.bind_some]
      simp
    | some t =>
      rw [e] at a1 a2 a5
      obtain ⟨r, a1, a3⟩ := a1
      obtain ⟨r', a2, a4⟩ := a2
      obtain ⟨r2, a5, a6⟩ := a5
      have : r' = r := nats_inj (a4.trans a3.symm)
      subst this
      have : r2 = r' := nats_inj (a6.trans a3.symm)
      subst this
      obtain ⟨ho, hn, h60⟩ := termOf_is e
      have hsz : r2.size ≤ s.size := by
        rw [← nats_length r2, ← nats_length s, a3, hn]
        exact T.tidy_size t 0 false
      have hb : ∀ b ∈ s.data.toList, b ≠ 10 := by
        intro b hb he
        have := text_bytes t ho b.toNat (by rw [← hn]; exact List.mem_map_of_mem hb)
        rw [he] at this
        exact this rfl
      have hx := tidy_line s r2 k (by omega) (by omega) hb a5
      have z1 : ((⟨#[116, 105, 100, 121, 32]⟩ : ByteArray) ++ s).size = 5 + s.size := ByteArray.size_append
      rw [a1, a2]
      simp only [Option.bind_some]
      rw [if_neg (by simp), if_pos trivial, if_pos trivial, if_pos (by omega), if_pos (by omega), hx, Option.bind_some, if_pos (by omega)]
      simp

end Go.Proofs.YtcmpkabpmmmhoaaGreatDoor.Pure
