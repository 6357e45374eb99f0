/- Written by a program of this claim out of the translation: plain Lean functions and their contracts; what is proved: each Go function of this text comes to what its Lean function says. -/
import Derived.Test.YtcmpkabpmmmhoaaGreatDoorPFnExecuteTidyx0
namespace Go.Proofs.YtcmpkabpmmmhoaaGreatDoor.PFnExecuteTidy
open Go.RowKit Go.Proofs.YtcmpkabpmmmhoaaGreatDoorW.PrintWords Go.Proofs.YtcmpkabpmmmhoaaGreatDoorW.PrintLast Go.Proofs.YtcmpkabpmmmhoaaGreatDoorW.PrintMore
attribute [local go_sem] max2_int min2_int max_two min_two max_three min_three max_four min_four   -- for this text's walks alone
set_option linter.unusedVariables false
set_option linter.unusedSimpArgs false

/-! ### spec_l10Read: function 110, by hand -/
def spec_l10Read.g (s : ByteArray) : Nat → Int → Int × List S67 × Int
  | 0, _ => (110, [], 0)
  | k + 1, p =>
    if p < (s.size : Int) then
      if bt s p = 110 ∨ bt s p = 101 ∨ bt s p = 115 ∨ bt s p = 119 then (bt s p, [], p + 1)
      else if bt s p = 45 ∨ bt s p = 64 ∨ (50 ≤ bt s p ∧ bt s p ≤ 57) then
        (bt s p, [⟨(spec_l10Read.g s k (p + 1)).1, (spec_l10Read.g s k (p + 1)).2.1⟩], (spec_l10Read.g s k (p + 1)).2.2)
      else if bt s p ≠ 40 then (110, [], 0)
      else if (spec_l10Read.g s k (p + 1)).2.2 = 0 ∨ (s.size : Int) ≤ (spec_l10Read.g s k (p + 1)).2.2 ∨ bt s (spec_l10Read.g s k (p + 1)).2.2 ≠ 43 then (110, [], 0)
      else if (spec_l10Read.g s k ((spec_l10Read.g s k (p + 1)).2.2 + 1)).2.2 = 0 ∨ (s.size : Int) ≤ (spec_l10Read.g s k ((spec_l10Read.g s k (p + 1)).2.2 + 1)).2.2 ∨ bt s (spec_l10Read.g s k ((spec_l10Read.g s k (p + 1)).2.2 + 1)).2.2 ≠ 41 then (110, [], 0)
      else (43, [⟨(spec_l10Read.g s k (p + 1)).1, (spec_l10Read.g s k (p + 1)).2.1⟩, ⟨(spec_l10Read.g s k ((spec_l10Read.g s k (p + 1)).2.2 + 1)).1, (spec_l10Read.g s k ((spec_l10Read.g s k (p + 1)).2.2 + 1)).2.1⟩], (spec_l10Read.g s k ((spec_l10Read.g s k (p + 1)).2.2 + 1)).2.2 + 1)
    else (110, [], 0)
theorem spec_l10Read.g_succ (s : ByteArray) (k : Nat) (p : Int) : spec_l10Read.g s (k + 1) p = if p < (s.size : Int) then
      if bt s p = 110 ∨ bt s p = 101 ∨ bt s p = 115 ∨ bt s p = 119 then (bt s p, [], p + 1)
      else if bt s p = 45 ∨ bt s p = 64 ∨ (50 ≤ bt s p ∧ bt s p ≤ 57) then
        (bt s p, [⟨(spec_l10Read.g s k (p + 1)).1, (spec_l10Read.g s k (p + 1)).2.1⟩], (spec_l10Read.g s k (p + 1)).2.2)
      else if bt s p ≠ 40 then (110, [], 0)
      else if (spec_l10Read.g s k (p + 1)).2.2 = 0 ∨ (s.size : Int) ≤ (spec_l10Read.g s k (p + 1)).2.2 ∨ bt s (spec_l10Read.g s k (p + 1)).2.2 ≠ 43 then (110, [], 0)
      else if (spec_l10Read.g s k ((spec_l10Read.g s k (p + 1)).2.2 + 1)).2.2 = 0 ∨ (s.size : Int) ≤ (spec_l10Read.g s k ((spec_l10Read.g s k (p + 1)).2.2 + 1)).2.2 ∨ bt s (spec_l10Read.g s k ((spec_l10Read.g s k (p + 1)).2.2 + 1)).2.2 ≠ 41 then (110, [], 0)
      else (43, [⟨(spec_l10Read.g s k (p + 1)).1, (spec_l10Read.g s k (p + 1)).2.1⟩, ⟨(spec_l10Read.g s k ((spec_l10Read.g s k (p + 1)).2.2 + 1)).1, (spec_l10Read.g s k ((spec_l10Read.g s k (p + 1)).2.2 + 1)).2.1⟩], (spec_l10Read.g s k ((spec_l10Read.g s k (p + 1)).2.2 + 1)).2.2 + 1)
    else (110, [], 0) := rfl
def spec_l10Read.f (a0 : ByteArray) (a1 : Int) : Option (Int × List S67 × Int) :=
  if a0.size ≤ 60 then (if 0 ≤ a1 then some (spec_l10Read.g a0 (a0.size + 1) a1) else none) else none
def spec_l10Read.Post (r : Int × List S67 × Int) (w : World) (e : Ending) (w' : World) : Prop :=
  ∃ v1_ : Value, e = .returned (.tuple #[.agg #[.int .u8 r.1, v1_], .int .i64 r.2.2]) ∧ Kd.R k67 67 w' w.heap.size (fun _ => True) v1_ r.2.1 ∧ Below w.heap.size w w'
theorem spec_l10Read.heap_new {W : World} {o : Obj} {g : Nat} (h : g = W.heap.size) : (W.alloc o).heap[g]? = some o := by
  subst h
  exact heap_alloc_new W o
theorem spec_l10Read.row_none {w : World} {g base : Nat} (h : w.heap[g]? = some (.cells #[] 67 (0, 0))) (hb : base ≤ g) : Kd.R k67 67 w base (fun _ => True) (.slice (some ⟨g, 0, none⟩) 0 0) [] :=
  ⟨fun _ _ => trivial, [], ⟨rfl, Or.inr ⟨g, 0, #[], rfl, hb, h, Nat.le_refl _, by decide, rfl, rfl⟩⟩, Reps.none _ _⟩
theorem spec_l10Read.row_one {w : World} {g base : Nat} {c : Int} {v : Value} {kids : List S67} (h : w.heap[g]? = some (.cells #[.int .u8 c, v] 67 (0, 0))) (hb : base ≤ g)
    (hk : Kd.R k67 67 w base (fun k => k ≠ g) v kids) : Kd.R k67 67 w base (fun _ => True) (.slice (some ⟨g, 0, none⟩) 1 1) [⟨c, kids⟩] := by
  refine ⟨fun _ _ => trivial, [.int .u8 c, v], ⟨rfl, Or.inr ⟨g, 1, #[.int .u8 c, v], rfl, hb, h, Nat.le_refl _, by decide, rfl, rfl⟩⟩, rfl, fun j q hq => ?_⟩
  match j, hq with
  | 0, hq =>
    injection hq with hq
    subst hq
    exact k67_mkM w base _ _ (Kd.R_mono hk (fun k hk => ⟨trivial, fun he => hk (by simpa [Value.ownBlock] using he)⟩))
  | j + 1, hq => simp at hq
theorem spec_l10Read.row_two {w : World} {g base : Nat} {c d : Int} {v u : Value} {kids more : List S67} (h : w.heap[g]? = some (.cells #[.int .u8 c, v, .int .u8 d, u] 67 (0, 0))) (hb : base ≤ g)
    (hk : Kd.R k67 67 w base (fun k => k ≠ g) v kids) (hm : Kd.R k67 67 w base (fun k => k ≠ g) u more) :
    Kd.R k67 67 w base (fun _ => True) (.slice (some ⟨g, 0, none⟩) 2 2) [⟨c, kids⟩, ⟨d, more⟩] := by
  refine ⟨fun _ _ => trivial, [.int .u8 c, v, .int .u8 d, u], ⟨rfl, Or.inr ⟨g, 2, #[.int .u8 c, v, .int .u8 d, u], rfl, hb, h, Nat.le_refl _, by decide, rfl, rfl⟩⟩, rfl, fun j q hq => ?_⟩
  match j, hq with
  | 0, hq =>
    injection hq with hq
    subst hq
    exact k67_mkM w base _ _ (Kd.R_mono hk (fun k hk => ⟨trivial, fun he => hk (by simpa [Value.ownBlock] using he)⟩))
  | 1, hq =>
    injection hq with hq
    subst hq
    exact k67_mkM w base _ _ (Kd.R_mono hm (fun k hk => ⟨trivial, fun he => hk (by simpa [Value.ownBlock] using he)⟩))
  | j + 2, hq => simp at hq
theorem spec_l10Read.kids_move {w1 W2 : World} {B base g : Nat} {v : Value} {xs : List S67} (h : Kd.R k67 67 w1 B (fun _ => True) v xs) (hb : base ≤ B) (hm : ∀ k, B ≤ k → k < w1.heap.size → W2.heap[k]? = w1.heap[k]?) (hg : w1.heap.size ≤ g) :
    Kd.R k67 67 W2 base (fun k => k ≠ g) v xs :=
  Kd.R_mono (Kd.R_step (Kd.R_lower (Kd.R_bound h) hb) (fun k hk hlt => hm k hk.2.1 hlt)) (fun k hk => by have := hk.2.2.1; omega)
set_option maxHeartbeats 1000000 in
set_option maxRecDepth 100000 in
theorem spec_l10Read.at_end (a0 : ByteArray) (p : Int) (w : World) (hs : a0.size ≤ 60) (h0 : 0 ≤ p) (h1 : (a0.size : Int) ≤ p) :
    Calls Tryz.prog 110 #[.string a0, .int .i64 p] w (spec_l10Read.Post (110, [], 0) w) := by
  have hu34 := Tryz.underlying67
  have hd : decide ((a0.size : Int) ≤ p) = true := decide_eq_true h1
  go_enter Tryz.func110, Tryz.ntmps110
  go_wp2
  refine bodyPost_ret (results_ct rfl _ _ w.heap.size 67 #[.int .u8 110, .slice (some ⟨w.heap.size + 1, 0, none⟩) 0 0] (0, 0) _ rfl (by repeat (first | (refine spec_l10Read.heap_new ?_; simp; done) | refine blk_alloc ?_ _)) Tryz.underlying67 rfl (by kernel_rfl)) rfl ?_
  refine ⟨_, rfl, spec_l10Read.row_none ?_ (Nat.le_add_right _ _), ?_⟩
  · repeat (first | (refine spec_l10Read.heap_new ?_; simp; done) | refine blk_alloc ?_ _)
  · exact below_alloc (below_alloc (below_alloc (Below.refl _ _) _) _) _
set_option maxHeartbeats 1000000 in
set_option maxRecDepth 100000 in
theorem spec_l10Read.at_leaf (a0 : ByteArray) (p : Int) (w : World) (hs : a0.size ≤ 60) (h0 : 0 ≤ p) (h1 : p < (a0.size : Int)) (hc : bt a0 p = 110 ∨ bt a0 p = 101 ∨ bt a0 p = 115 ∨ bt a0 p = 119) :
    Calls Tryz.prog 110 #[.string a0, .int .i64 p] w (spec_l10Read.Post (bt a0 p, [], p + 1) w) := by
  have hu34 := Tryz.underlying67
  have hd : decide ((a0.size : Int) ≤ p) = false := decide_eq_false (by omega)
  have hl : p.toNat < a0.size := by omega
  have hb := bt_at a0 p
  rcases hc with hc | hc | hc | hc
  all_goals
    go_enter Tryz.func110, Tryz.ntmps110
    go_wp2
    refine bodyPost_ret (results_ct rfl _ _ w.heap.size 67 #[.int .u8 _, .slice (some ⟨w.heap.size + 1 + 1 + 1, 0, none⟩) 0 0] (0, 0) _ rfl (by repeat (first | (refine spec_l10Read.heap_new ?_; simp; done) | refine blk_alloc ?_ _)) Tryz.underlying67 rfl (by kernel_rfl)) rfl ?_
    rw [hc]
    refine ⟨_, rfl, spec_l10Read.row_none ?_ (by omega), ?_⟩
    · repeat (first | (refine spec_l10Read.heap_new ?_; simp; done) | refine blk_alloc ?_ _)
    · exact below_alloc (below_alloc (below_alloc (below_alloc (Below.refl _ _) _) _) _) _
set_option maxHeartbeats 2000000 in
set_option maxRecDepth 100000 in
theorem spec_l10Read.at_one' (a0 : ByteArray) (p c : Int) (w : World) (hs : a0.size ≤ 60) (h0 : 0 ≤ p) (h1 : p < (a0.size : Int)) (hb : ∀ h : p.toNat < a0.size, ((a0[p.toNat]'h).toNat : Int) = c) (t : Int × List S67 × Int)
    (ih : ∀ w, Calls Tryz.prog 110 #[.string a0, .int .i64 (p + 1)] w (spec_l10Read.Post t w)) (e1 : (c == 110) = false) (e2 : (c == 101) = false) (e3 : (c == 115) = false) (e4 : (c == 119) = false)
    (e5 : (c == 45) = true ∨ ((c == 45) = false ∧ (c == 64) = true) ∨ ((c == 45) = false ∧ (c == 64) = false ∧ decide (50 ≤ c) = true ∧ decide (c ≤ 57) = true)) :
    Calls Tryz.prog 110 #[.string a0, .int .i64 p] w (spec_l10Read.Post (c, [⟨t.1, t.2.1⟩], t.2.2) w) := by
  have hu34 := Tryz.underlying67
  have hd : decide ((a0.size : Int) ≤ p) = false := decide_eq_false (by omega)
  have hl : p.toNat < a0.size := by omega
  have IH := Lib.hid ih
  clear ih
  have b0 := below_alloc (below_alloc (below_alloc (Below.refl w.heap.size w) (.cells #[.int .u8 0, .slice none 0 0] 67)) (.cells #[] 67)) (.cells #[.int .u8 110, .slice (some ⟨w.heap.size + 1, 0, none⟩) 0 0] 67)
  have B0 := Lib.hid b0
  clear b0
  rcases e5 with e5 | ⟨e5, e6⟩ | ⟨e5, e6, e7, e8⟩
  all_goals
    go_enter Tryz.func110, Tryz.ntmps110
    go_wp2_with fail
    refine (IH.out _).mono ?_
    rintro e w1 ⟨v1, rfl, hR1, hB1⟩
    have HB := Lib.hid (blk_below (g := w.heap.size) (o := .cells #[.int .u8 0, .slice none 0 0] 67) (by repeat (first | (refine spec_l10Read.heap_new ?_; simp; done) | refine blk_alloc ?_ _)) hB1)
    have hz : w.heap.size < w1.heap.size := blk_lt HB.out
    have c0 : w1.cell? ⟨w.heap.size, 0, none⟩ = some (.int .u8 0) := blk_cell HB.out 0
    have c1 : w1.cell? ⟨w.heap.size, 1, none⟩ = some (.slice none 0 0) := blk_cell HB.out 1
    have f0 : w1.frozen? ⟨w.heap.size, 0, none⟩ = false := blk_frozen HB.out 0
    have f1 : w1.frozen? ⟨w.heap.size, 1, none⟩ = false := blk_frozen HB.out 1
    obtain ⟨A1, k1, rfl⟩ := Kd.R_slice hR1
    have HR := Lib.hid hR1
    clear hR1
    go_wp2_with fail
    refine bodyPost_ret (results_ct rfl _ _ w.heap.size 67 #[.int .u8 c, .slice (some ⟨w1.heap.size + 1, 0, none⟩) 1 1] (0, 0) _ rfl (blk_alloc (blk_alloc (blk_put (blk_put HB.out 0 _ rfl) 1 _ rfl) _) _) Tryz.underlying67 rfl (by kernel_rfl)) rfl ?_
    refine ⟨_, rfl, spec_l10Read.row_one (v := .slice A1 t.2.1.length k1) ?_ (by omega) (spec_l10Read.kids_move HR.out (by simp; omega) (fun k hk hlt => ?_) (by omega)), ?_⟩
    · repeat (first | (refine spec_l10Read.heap_new ?_; simp; done) | refine blk_alloc ?_ _)
    · simp at hk
      rw [Below.heap_alloc _ _ _ (by simp; omega), Below.heap_alloc _ _ _ (by simp; omega), Below.heap_setCell _ _ _ _ (by simp; omega), Below.heap_setCell _ _ _ _ (by simp; omega)]
    · have hb3 := below_then B0.out (by simp; omega) hB1
      exact below_alloc (below_alloc (below_set (below_set hb3 (Nat.le_refl _)) (Nat.le_refl _)) _) _
theorem spec_l10Read.at_one (a0 : ByteArray) (p c : Int) (w : World) (hs : a0.size ≤ 60) (h0 : 0 ≤ p) (h1 : p < (a0.size : Int)) (hb : ∀ h : p.toNat < a0.size, ((a0[p.toNat]'h).toNat : Int) = c) (hc : c = 45 ∨ c = 64 ∨ (50 ≤ c ∧ c ≤ 57)) (t : Int × List S67 × Int)
    (ih : ∀ w, Calls Tryz.prog 110 #[.string a0, .int .i64 (p + 1)] w (spec_l10Read.Post t w)) :
    Calls Tryz.prog 110 #[.string a0, .int .i64 p] w (spec_l10Read.Post (c, [⟨t.1, t.2.1⟩], t.2.2) w) := by
  refine spec_l10Read.at_one' a0 p c w hs h0 h1 hb t ih (by simp; omega) (by simp; omega) (by simp; omega) (by simp; omega) ?_
  rcases hc with rfl | rfl | ⟨h1, h2⟩
  · exact .inl rfl
  · exact .inr (.inl ⟨rfl, rfl⟩)
  · exact .inr (.inr ⟨by simp; omega, by simp; omega, decide_eq_true h1, decide_eq_true h2⟩)
set_option maxHeartbeats 2000000 in
set_option maxRecDepth 100000 in
theorem spec_l10Read.at_not (a0 : ByteArray) (p c : Int) (w : World) (hs : a0.size ≤ 60) (h0 : 0 ≤ p) (h1 : p < (a0.size : Int)) (hb : ∀ h : p.toNat < a0.size, ((a0[p.toNat]'h).toNat : Int) = c)
    (e1 : (c == 110) = false) (e2 : (c == 101) = false) (e3 : (c == 115) = false) (e4 : (c == 119) = false) (e5 : (c == 45) = false) (e6 : (c == 64) = false) (e7 : decide (50 ≤ c) = false ∨ (decide (50 ≤ c) = true ∧ decide (c ≤ 57) = false)) (e8 : (c != 40) = true) :
    Calls Tryz.prog 110 #[.string a0, .int .i64 p] w (spec_l10Read.Post (110, [], 0) w) := by
  have hu34 := Tryz.underlying67
  have hd : decide ((a0.size : Int) ≤ p) = false := decide_eq_false (by omega)
  have hl : p.toNat < a0.size := by omega
  rcases e7 with e7 | ⟨e7, e9⟩
  all_goals
    go_enter Tryz.func110, Tryz.ntmps110
    go_wp2
    refine bodyPost_ret (results_ct rfl _ _ w.heap.size 67 #[.int .u8 110, .slice (some ⟨w.heap.size + 1, 0, none⟩) 0 0] (0, 0) _ rfl (by repeat (first | (refine spec_l10Read.heap_new ?_; simp; done) | refine blk_alloc ?_ _)) Tryz.underlying67 rfl (by kernel_rfl)) rfl ?_
    refine ⟨_, rfl, spec_l10Read.row_none ?_ (Nat.le_add_right _ _), ?_⟩
    · repeat (first | (refine spec_l10Read.heap_new ?_; simp; done) | refine blk_alloc ?_ _)
    · exact below_alloc (below_alloc (below_alloc (Below.refl _ _) _) _) _
set_option maxHeartbeats 2000000 in
set_option maxRecDepth 100000 in
/-- '(' and no first term, or no '+' behind it. -/
theorem spec_l10Read.at_mid (a0 : ByteArray) (p : Int) (w : World) (hs : a0.size ≤ 60) (h0 : 0 ≤ p) (h1 : p < (a0.size : Int)) (hb : ∀ h : p.toNat < a0.size, ((a0[p.toNat]'h).toNat : Int) = 40) (t1 : Int) (t2 : List S67) (m d : Int)
    (ih : ∀ w, Calls Tryz.prog 110 #[.string a0, .int .i64 (p + 1)] w (spec_l10Read.Post (t1, t2, m) w)) (hm0 : 0 ≤ m) (hd2 : ∀ h : m.toNat < a0.size, ((a0[m.toNat]'h).toNat : Int) = d)
    (hm : (m == 0) = true ∨ ((m == 0) = false ∧ decide ((a0.size : Int) ≤ m) = true) ∨ ((m == 0) = false ∧ decide ((a0.size : Int) ≤ m) = false ∧ m.toNat < a0.size ∧ (d != 43) = true)) :
    Calls Tryz.prog 110 #[.string a0, .int .i64 p] w (spec_l10Read.Post (110, [], 0) w) := by
  have hu34 := Tryz.underlying67
  have hd : decide ((a0.size : Int) ≤ p) = false := decide_eq_false (by omega)
  have hl : p.toNat < a0.size := by omega
  have IH := Lib.hid ih
  clear ih
  have b0 := below_alloc (below_alloc (below_alloc (Below.refl w.heap.size w) (.cells #[.int .u8 0, .slice none 0 0] 67)) (.cells #[] 67)) (.cells #[.int .u8 110, .slice (some ⟨w.heap.size + 1, 0, none⟩) 0 0] 67)
  have B0 := Lib.hid b0
  clear b0
  rcases hm with e5 | ⟨e5, e6⟩ | ⟨e5, e6, e7, e8⟩
  all_goals
    go_enter Tryz.func110, Tryz.ntmps110
    go_wp2_with fail
    refine (IH.out _).mono ?_
    rintro e w1 ⟨v1, rfl, hR1, hB1⟩
    have HB := Lib.hid (blk_below (g := w.heap.size) (o := .cells #[.int .u8 0, .slice none 0 0] 67) (by repeat (first | (refine spec_l10Read.heap_new ?_; simp; done) | refine blk_alloc ?_ _)) hB1)
    have HE := Lib.hid (blk_below (g := w.heap.size + 1) (o := .cells #[] 67) (by repeat (first | (refine spec_l10Read.heap_new ?_; simp; done) | refine blk_alloc ?_ _)) hB1)
    have HN := Lib.hid (blk_below (g := w.heap.size + 1 + 1) (o := .cells #[.int .u8 110, .slice (some ⟨w.heap.size + 1, 0, none⟩) 0 0] 67) (by repeat (first | (refine spec_l10Read.heap_new ?_; simp; done) | refine blk_alloc ?_ _)) hB1)
    have hz : w.heap.size + 1 + 1 < w1.heap.size := blk_lt HN.out
    have hz0 : w.heap.size < w1.heap.size := by omega
    have c0 : w1.cell? ⟨w.heap.size, 0, none⟩ = some (.int .u8 0) := blk_cell HB.out 0
    have c1 : w1.cell? ⟨w.heap.size, 1, none⟩ = some (.slice none 0 0) := blk_cell HB.out 1
    have f0 : w1.frozen? ⟨w.heap.size, 0, none⟩ = false := blk_frozen HB.out 0
    have f1 : w1.frozen? ⟨w.heap.size, 1, none⟩ = false := blk_frozen HB.out 1
    have n0 : w1.cell? ⟨w.heap.size + 1 + 1, 0, none⟩ = some (.int .u8 110) := blk_cell HN.out 0
    have n1 : w1.cell? ⟨w.heap.size + 1 + 1, 1, none⟩ = some (.slice (some ⟨w.heap.size + 1, 0, none⟩) 0 0) := blk_cell HN.out 1
    obtain ⟨A1, k1, rfl⟩ := Kd.R_slice hR1
    clear hR1
    go_wp2_with fail
    refine bodyPost_ret (results_ct rfl _ _ w.heap.size 67 #[.int .u8 110, .slice (some ⟨w.heap.size + 1, 0, none⟩) 0 0] (0, 0) _ rfl (blk_alloc (blk_put (blk_put HB.out 0 _ rfl) 1 _ rfl) _) Tryz.underlying67 rfl (by kernel_rfl)) rfl ?_
    refine ⟨_, rfl, spec_l10Read.row_none (blk_alloc (blk_far (blk_far HE.out (by simp) _) (by simp) _) _) (by omega), ?_⟩
    have hb3 := below_then B0.out (by simp; omega) hB1
    exact below_alloc (below_set (below_set hb3 (Nat.le_refl _)) (Nat.le_refl _)) _
set_option maxHeartbeats 2000000 in
set_option maxRecDepth 100000 in
/-- '(', a term, '+', and no second term or no ')' behind it. -/
theorem spec_l10Read.at_last (a0 : ByteArray) (p : Int) (w : World) (hs : a0.size ≤ 60) (h0 : 0 ≤ p) (h1 : p < (a0.size : Int)) (hb : ∀ h : p.toNat < a0.size, ((a0[p.toNat]'h).toNat : Int) = 40) (t1 : Int) (t2 : List S67) (m : Int)
    (ih : ∀ w, Calls Tryz.prog 110 #[.string a0, .int .i64 (p + 1)] w (spec_l10Read.Post (t1, t2, m) w)) (hm0 : 0 ≤ m) (hd2 : ∀ h : m.toNat < a0.size, ((a0[m.toNat]'h).toNat : Int) = 43)
    (e5 : (m == 0) = false) (e6 : decide ((a0.size : Int) ≤ m) = false) (e7 : m.toNat < a0.size) (u1 : Int) (u2 : List S67) (n d : Int)
    (ih2 : ∀ w, Calls Tryz.prog 110 #[.string a0, .int .i64 (m + 1)] w (spec_l10Read.Post (u1, u2, n) w)) (hn0 : 0 ≤ n) (hd3 : ∀ h : n.toNat < a0.size, ((a0[n.toNat]'h).toNat : Int) = d)
    (hn : (n == 0) = true ∨ ((n == 0) = false ∧ decide ((a0.size : Int) ≤ n) = true) ∨ ((n == 0) = false ∧ decide ((a0.size : Int) ≤ n) = false ∧ n.toNat < a0.size ∧ (d != 41) = true)) :
    Calls Tryz.prog 110 #[.string a0, .int .i64 p] w (spec_l10Read.Post (110, [], 0) w) := by
  have hu34 := Tryz.underlying67
  have hd : decide ((a0.size : Int) ≤ p) = false := decide_eq_false (by omega)
  have hl : p.toNat < a0.size := by omega
  have IH := Lib.hid ih
  have IH2 := Lib.hid ih2
  clear ih ih2
  have b0 := below_alloc (below_alloc (below_alloc (Below.refl w.heap.size w) (.cells #[.int .u8 0, .slice none 0 0] 67)) (.cells #[] 67)) (.cells #[.int .u8 110, .slice (some ⟨w.heap.size + 1, 0, none⟩) 0 0] 67)
  have B0 := Lib.hid b0
  clear b0
  rcases hn with k5 | ⟨k5, k6⟩ | ⟨k5, k6, k7, k8⟩
  all_goals
    go_enter Tryz.func110, Tryz.ntmps110
    go_wp2_with fail
    refine (IH.out _).mono ?_
    rintro e w1 ⟨v1, rfl, hR1, hB1⟩
    have HB := Lib.hid (blk_below (g := w.heap.size) (o := .cells #[.int .u8 0, .slice none 0 0] 67) (by repeat (first | (refine spec_l10Read.heap_new ?_; simp; done) | refine blk_alloc ?_ _)) hB1)
    have HE := Lib.hid (blk_below (g := w.heap.size + 1) (o := .cells #[] 67) (by repeat (first | (refine spec_l10Read.heap_new ?_; simp; done) | refine blk_alloc ?_ _)) hB1)
    have HN := Lib.hid (blk_below (g := w.heap.size + 1 + 1) (o := .cells #[.int .u8 110, .slice (some ⟨w.heap.size + 1, 0, none⟩) 0 0] 67) (by repeat (first | (refine spec_l10Read.heap_new ?_; simp; done) | refine blk_alloc ?_ _)) hB1)
    have hz : w.heap.size + 1 + 1 < w1.heap.size := blk_lt HN.out
    have hz0 : w.heap.size < w1.heap.size := by omega
    have B1 := Lib.hid (below_then B0.out (by simp; omega) hB1)
    obtain ⟨A1, k1, rfl⟩ := Kd.R_slice hR1
    clear hR1 hB1
    go_wp2_with fail
    refine (IH2.out _).mono ?_
    rintro e w2 ⟨v2, rfl, hR2, hB2⟩
    have HB2 := Lib.hid (blk_below (blk_alloc HB.out _) hB2)
    have HE2 := Lib.hid (blk_below (blk_alloc HE.out _) hB2)
    have HN2 := Lib.hid (blk_below (blk_alloc HN.out _) hB2)
    have hz2 : w.heap.size + 1 + 1 < w2.heap.size := blk_lt HN2.out
    have hz3 : w.heap.size < w2.heap.size := by omega
    have B2 := Lib.hid (below_then (below_alloc B1.out _) (by simp; omega) hB2)
    have c0 : w2.cell? ⟨w.heap.size, 0, none⟩ = some (.int .u8 0) := blk_cell HB2.out 0
    have c1 : w2.cell? ⟨w.heap.size, 1, none⟩ = some (.slice none 0 0) := blk_cell HB2.out 1
    have f0 : w2.frozen? ⟨w.heap.size, 0, none⟩ = false := blk_frozen HB2.out 0
    have f1 : w2.frozen? ⟨w.heap.size, 1, none⟩ = false := blk_frozen HB2.out 1
    have n0 : w2.cell? ⟨w.heap.size + 1 + 1, 0, none⟩ = some (.int .u8 110) := blk_cell HN2.out 0
    have n1 : w2.cell? ⟨w.heap.size + 1 + 1, 1, none⟩ = some (.slice (some ⟨w.heap.size + 1, 0, none⟩) 0 0) := blk_cell HN2.out 1
    obtain ⟨A2, k2, rfl⟩ := Kd.R_slice hR2
    clear hR2 hB2
    go_wp2_with fail
    refine bodyPost_ret (results_ct rfl _ _ w.heap.size 67 #[.int .u8 110, .slice (some ⟨w.heap.size + 1, 0, none⟩) 0 0] (0, 0) _ rfl (blk_alloc (blk_put (blk_put HB2.out 0 _ rfl) 1 _ rfl) _) Tryz.underlying67 rfl (by kernel_rfl)) rfl ?_
    refine ⟨_, rfl, spec_l10Read.row_none (blk_alloc (blk_far (blk_far HE2.out (by simp) _) (by simp) _) _) (by omega), ?_⟩
    exact below_alloc (below_set (below_set B2.out (Nat.le_refl _)) (Nat.le_refl _)) _
set_option maxHeartbeats 2000000 in
set_option maxRecDepth 100000 in
/-- '(', a term, '+', a term, ')'. -/
theorem spec_l10Read.at_two (a0 : ByteArray) (p : Int) (w : World) (hs : a0.size ≤ 60) (h0 : 0 ≤ p) (h1 : p < (a0.size : Int)) (hb : ∀ h : p.toNat < a0.size, ((a0[p.toNat]'h).toNat : Int) = 40) (t1 : Int) (t2 : List S67) (m : Int)
    (ih : ∀ w, Calls Tryz.prog 110 #[.string a0, .int .i64 (p + 1)] w (spec_l10Read.Post (t1, t2, m) w)) (hm0 : 0 ≤ m) (hd2 : ∀ h : m.toNat < a0.size, ((a0[m.toNat]'h).toNat : Int) = 43)
    (e5 : (m == 0) = false) (e6 : decide ((a0.size : Int) ≤ m) = false) (e7 : m.toNat < a0.size) (u1 : Int) (u2 : List S67) (n : Int)
    (ih2 : ∀ w, Calls Tryz.prog 110 #[.string a0, .int .i64 (m + 1)] w (spec_l10Read.Post (u1, u2, n) w)) (hn0 : 0 ≤ n) (hd3 : ∀ h : n.toNat < a0.size, ((a0[n.toNat]'h).toNat : Int) = 41)
    (k5 : (n == 0) = false) (k6 : decide ((a0.size : Int) ≤ n) = false) (k7 : n.toNat < a0.size) :
    Calls Tryz.prog 110 #[.string a0, .int .i64 p] w (spec_l10Read.Post (43, [⟨t1, t2⟩, ⟨u1, u2⟩], n + 1) w) := by
  have hu34 := Tryz.underlying67
  have hd : decide ((a0.size : Int) ≤ p) = false := decide_eq_false (by omega)
  have hl : p.toNat < a0.size := by omega
  have IH := Lib.hid ih
  have IH2 := Lib.hid ih2
  clear ih ih2
  have b0 := below_alloc (below_alloc (below_alloc (Below.refl w.heap.size w) (.cells #[.int .u8 0, .slice none 0 0] 67)) (.cells #[] 67)) (.cells #[.int .u8 110, .slice (some ⟨w.heap.size + 1, 0, none⟩) 0 0] 67)
  have B0 := Lib.hid b0
  clear b0
  go_enter Tryz.func110, Tryz.ntmps110
  go_wp2_with fail
  refine (IH.out _).mono ?_
  rintro e w1 ⟨v1, rfl, hR1, hB1⟩
  have HB := Lib.hid (blk_below (g := w.heap.size) (o := .cells #[.int .u8 0, .slice none 0 0] 67) (by repeat (first | (refine spec_l10Read.heap_new ?_; simp; done) | refine blk_alloc ?_ _)) hB1)
  have hz : w.heap.size < w1.heap.size := blk_lt HB.out
  have B1 := Lib.hid (below_then B0.out (by simp; omega) hB1)
  obtain ⟨A1, k1, rfl⟩ := Kd.R_slice hR1
  have HR1 := Lib.hid hR1
  clear hR1 hB1
  go_wp2_with fail
  refine (IH2.out _).mono ?_
  rintro e w2 ⟨v2, rfl, hR2, hB2⟩
  have HB2 := Lib.hid (blk_below (blk_alloc HB.out _) hB2)
  have HT := Lib.hid (blk_below (heap_alloc_new w1 (.cells #[.int .u8 t1, .slice A1 t2.length k1] 67)) hB2)
  have hz2 : w.heap.size < w2.heap.size := blk_lt HB2.out
  have hz3 : w1.heap.size < w2.heap.size := blk_lt HT.out
  have B2 := Lib.hid (below_then (below_alloc B1.out _) (by simp; omega) hB2)
  have HW := Lib.hid hB2
  have c0 : w2.cell? ⟨w.heap.size, 0, none⟩ = some (.int .u8 0) := blk_cell HB2.out 0
  have c1 : w2.cell? ⟨w.heap.size, 1, none⟩ = some (.slice none 0 0) := blk_cell HB2.out 1
  have f0 : w2.frozen? ⟨w.heap.size, 0, none⟩ = false := blk_frozen HB2.out 0
  have f1 : w2.frozen? ⟨w.heap.size, 1, none⟩ = false := blk_frozen HB2.out 1
  have n0 : w2.cell? ⟨w1.heap.size, 0, none⟩ = some (.int .u8 t1) := blk_cell HT.out 0
  have n1 : w2.cell? ⟨w1.heap.size, 1, none⟩ = some (.slice A1 t2.length k1) := blk_cell HT.out 1
  obtain ⟨A2, k2, rfl⟩ := Kd.R_slice hR2
  have HR2 := Lib.hid hR2
  clear hR2 hB2
  go_wp2_with fail
  refine bodyPost_ret (results_ct rfl _ _ w.heap.size 67 #[.int .u8 43, .slice (some ⟨w2.heap.size + 1, 0, none⟩) 2 2] (0, 0) _ rfl (blk_alloc (blk_alloc (blk_put (blk_put HB2.out 0 _ rfl) 1 _ rfl) _) _) Tryz.underlying67 rfl (by kernel_rfl)) rfl ?_
  refine ⟨_, rfl, spec_l10Read.row_two (v := .slice A1 t2.length k1) (u := .slice A2 u2.length k2) ?_ (by omega) (spec_l10Read.kids_move HR1.out (by simp; omega) (fun k hk hlt => ?_) (by omega)) (spec_l10Read.kids_move HR2.out (by simp; omega) (fun k hk hlt => ?_) (by omega)), ?_⟩
  · repeat (first | (refine spec_l10Read.heap_new ?_; simp; done) | refine blk_alloc ?_ _)
  · simp at hk
    rw [Below.heap_alloc _ _ _ (by simp; omega), Below.heap_alloc _ _ _ (by simp; omega), Below.heap_setCell _ _ _ _ (by simp; omega), Below.heap_setCell _ _ _ _ (by simp; omega), HW.out.block k (by simp; omega), Below.heap_alloc _ _ _ (by omega)]
  · simp at hk
    rw [Below.heap_alloc _ _ _ (by simp; omega), Below.heap_alloc _ _ _ (by simp; omega), Below.heap_setCell _ _ _ _ (by simp; omega), Below.heap_setCell _ _ _ _ (by simp; omega)]
  · exact below_alloc (below_alloc (below_set (below_set B2.out (Nat.le_refl _)) (Nat.le_refl _)) _) _
theorem spec_l10Read.g_end (s : ByteArray) : ∀ (k : Nat) (p : Int), 0 ≤ p → (spec_l10Read.g s k p).2.2 = 0 ∨ (p < (spec_l10Read.g s k p).2.2 ∧ (spec_l10Read.g s k p).2.2 ≤ s.size) := by
  intro k
  induction k with
  | zero => intro p _; exact .inl rfl
  | succ k ih =>
    intro p hp
    have h1 := ih (p + 1) (by omega)
    have h2 : 0 ≤ (spec_l10Read.g s k (p + 1)).2.2 := by omega
    have h3 := ih ((spec_l10Read.g s k (p + 1)).2.2 + 1) (by omega)
    rw [spec_l10Read.g_succ]
    split
    · split
      · exact .inr ⟨by simp only []; omega, by simp only []; omega⟩
      · split
        · rcases h1 with h1 | h1
          · exact .inl h1
          · exact .inr ⟨by simp only []; omega, by simp only []; omega⟩
        · split
          · exact .inl rfl
          · split
            · exact .inl rfl
            · split
              · exact .inl rfl
              · exact .inr ⟨by simp only []; omega, by simp only []; omega⟩
    · exact .inl rfl
theorem spec_l10Read.reads (s : ByteArray) (hs : s.size ≤ 60) : ∀ (k : Nat) (p : Int), 0 ≤ p → (s.size : Int) - p < k → ∀ w, Calls Tryz.prog 110 #[.string s, .int .i64 p] w (spec_l10Read.Post (spec_l10Read.g s k p) w) := by
  intro k
  induction k with
  | zero => intro p h0 hk w; exact spec_l10Read.at_end s p w hs h0 (by omega)
  | succ k ih =>
    intro p h0 hk w
    by_cases h1 : p < (s.size : Int)
    · have hb := bt_at s p
      rw [spec_l10Read.g_succ, if_pos h1]
      split
      · next hc => exact spec_l10Read.at_leaf s p w hs h0 h1 hc
      · next hc =>
        split
        · next hd => exact spec_l10Read.at_one s p (bt s p) w hs h0 h1 hb hd (spec_l10Read.g s k (p + 1)) (fun w => ih (p + 1) (by omega) (by omega) w)
        · next hd =>
          split
          · next he =>
            refine spec_l10Read.at_not s p (bt s p) w hs h0 h1 hb (by simp; omega) (by simp; omega) (by simp; omega) (by simp; omega) (by simp; omega) (by simp; omega) ?_ (by simp; omega)
            by_cases h5 : 50 ≤ bt s p
            · exact .inr ⟨decide_eq_true h5, decide_eq_false (by omega)⟩
            · exact .inl (decide_eq_false h5)
          · next he =>
            have he : bt s p = 40 := by omega
            rw [he] at hb
            have hm := spec_l10Read.g_end s k (p + 1) (by omega)
            have hm0 : 0 ≤ (spec_l10Read.g s k (p + 1)).2.2 := by omega
            have hn := spec_l10Read.g_end s k ((spec_l10Read.g s k (p + 1)).2.2 + 1) (by omega)
            have hn0 : 0 ≤ (spec_l10Read.g s k ((spec_l10Read.g s k (p + 1)).2.2 + 1)).2.2 := by omega
            split
            · next hf =>
              refine spec_l10Read.at_mid s p w hs h0 h1 hb (spec_l10Read.g s k (p + 1)).1 (spec_l10Read.g s k (p + 1)).2.1 (spec_l10Read.g s k (p + 1)).2.2 (bt s (spec_l10Read.g s k (p + 1)).2.2) (fun w => ih (p + 1) (by omega) (by omega) w) hm0 (bt_at s _) ?_
              by_cases q1 : (spec_l10Read.g s k (p + 1)).2.2 = 0
              · exact .inl (by simp [q1])
              · by_cases q2 : (s.size : Int) ≤ (spec_l10Read.g s k (p + 1)).2.2
                · exact .inr (.inl ⟨by simp [q1], decide_eq_true q2⟩)
                · exact .inr (.inr ⟨by simp [q1], decide_eq_false q2, by omega, by simp; omega⟩)
            · next hf =>
              have q1 : (spec_l10Read.g s k (p + 1)).2.2 ≠ 0 := by omega
              have q3 : bt s (spec_l10Read.g s k (p + 1)).2.2 = 43 := by omega
              have q4 := bt_at s (spec_l10Read.g s k (p + 1)).2.2
              rw [q3] at q4
              split
              · next hg =>
                refine spec_l10Read.at_last s p w hs h0 h1 hb (spec_l10Read.g s k (p + 1)).1 (spec_l10Read.g s k (p + 1)).2.1 (spec_l10Read.g s k (p + 1)).2.2 (fun w => ih (p + 1) (by omega) (by omega) w) hm0 q4 (by simp [q1]) (decide_eq_false (by omega)) (by omega) (spec_l10Read.g s k ((spec_l10Read.g s k (p + 1)).2.2 + 1)).1 (spec_l10Read.g s k ((spec_l10Read.g s k (p + 1)).2.2 + 1)).2.1 (spec_l10Read.g s k ((spec_l10Read.g s k (p + 1)).2.2 + 1)).2.2 (bt s (spec_l10Read.g s k ((spec_l10Read.g s k (p + 1)).2.2 + 1)).2.2) (fun w => ih ((spec_l10Read.g s k (p + 1)).2.2 + 1) (by omega) (by omega) w) hn0 (bt_at s _) ?_
                by_cases r1 : (spec_l10Read.g s k ((spec_l10Read.g s k (p + 1)).2.2 + 1)).2.2 = 0
                · exact .inl (by simp [r1])
                · by_cases r2 : (s.size : Int) ≤ (spec_l10Read.g s k ((spec_l10Read.g s k (p + 1)).2.2 + 1)).2.2
                  · exact .inr (.inl ⟨by simp [r1], decide_eq_true r2⟩)
                  · exact .inr (.inr ⟨by simp [r1], decide_eq_false r2, by omega, by simp; omega⟩)
              · next hg =>
                have r1 : (spec_l10Read.g s k ((spec_l10Read.g s k (p + 1)).2.2 + 1)).2.2 ≠ 0 := by omega
                have r3 : bt s (spec_l10Read.g s k ((spec_l10Read.g s k (p + 1)).2.2 + 1)).2.2 = 41 := by omega
                have r4 := bt_at s (spec_l10Read.g s k ((spec_l10Read.g s k (p + 1)).2.2 + 1)).2.2
                rw [r3] at r4
                exact spec_l10Read.at_two s p w hs h0 h1 hb (spec_l10Read.g s k (p + 1)).1 (spec_l10Read.g s k (p + 1)).2.1 (spec_l10Read.g s k (p + 1)).2.2 (fun w => ih (p + 1) (by omega) (by omega) w) hm0 q4 (by simp [q1]) (decide_eq_false (by omega)) (by omega) (spec_l10Read.g s k ((spec_l10Read.g s k (p + 1)).2.2 + 1)).1 (spec_l10Read.g s k ((spec_l10Read.g s k (p + 1)).2.2 + 1)).2.1 (spec_l10Read.g s k ((spec_l10Read.g s k (p + 1)).2.2 + 1)).2.2 (fun w => ih ((spec_l10Read.g s k (p + 1)).2.2 + 1) (by omega) (by omega) w) hn0 r4 (by simp [r1]) (decide_eq_false (by omega)) (by omega)
    · rw [spec_l10Read.g_succ, if_neg h1]
      exact spec_l10Read.at_end s p w hs h0 (by omega)
theorem spec_l10Read.calls (a0 : ByteArray) (a1 : Int) (r1 : Int) (r2 : List S67) (r3 : Int) (w : World) (h : spec_l10Read.f a0 a1 = some (r1, r2, r3)) :
    Calls Tryz.prog 110 #[.string a0, .int .i64 a1] w fun e w' => ∃ v1_ : Value, e = .returned (.tuple #[.agg #[.int .u8 r1, v1_], .int .i64 r3]) ∧ Kd.R k67 67 w' w.heap.size (fun _ => True) v1_ r2 ∧ Below w.heap.size w w' := by
  simp only [spec_l10Read.f] at h
  split at h
  · next hs =>
    split at h
    · next h0 =>
      injection h with h
      have hh := spec_l10Read.reads a0 hs (a0.size + 1) a1 h0 (by omega) w
      rw [h] at hh
      exact hh
    · simp at h
  · simp at h

/-! ### spec_l10Of: function 46 -/
def spec_l10Of.f (a0 : ByteArray) : Option (Int × (List (S67)) × Bool) := if (a0.size : Int) > 60 then (some (110, (([] : List (S67))), false)) else ((spec_l10Read.f a0 0).bind fun bt199 => (if bt199.2.2 > 0 then (some (bt199.1, bt199.2.1, (bt199.2.2 == (a0.size : Int)))) else (some (bt199.1, bt199.2.1, false))))
set_option maxHeartbeats 8000000 in
set_option maxRecDepth 100000 in
theorem spec_l10Of.calls (a0 : ByteArray) (r1 : Int) (r2 : List (S67)) (r3 : Bool) (w : World) (h : spec_l10Of.f a0 = some (r1, r2, r3)) :
    Calls Tryz.prog 46 #[.string a0] w fun e w' => ∃ v1_ : Value, e = .returned (.tuple #[.agg #[.int .u8 r1, v1_], .bool r3]) ∧ Kd.R k67 67 w' w.heap.size (fun _ => True) v1_ r2 ∧ Below w.heap.size w w' := by
  have hu67 := Tryz.underlying67
  have HB := Aside0.mk (Below.refl w.heap.size w)
  have H : (if (a0.size : Int) > 60 then (some (110, (([] : List (S67))), false)) else ((spec_l10Read.f a0 0).bind fun bt199 => (if bt199.2.2 > 0 then (some (bt199.1, bt199.2.1, (bt199.2.2 == (a0.size : Int)))) else (some (bt199.1, bt199.2.1, false))))) = some (r1, r2, r3) := h
  clear h
  by_cases c2 : (a0.size : Int) > 60
  · rw [if_pos c2] at H
    have c2b0 : decide (60 < (a0.size : Int)) = true := decide_eq_true c2
    have c2b1 : decide (60 < a0.size) = true := decide_eq_true (by omega)
    clear c2
    obtain ⟨y196, hy196⟩ : ∃ y_ : List (S67), y_ = (([] : List (S67))) := ⟨_, rfl⟩
    replace H : (some (110, y196, false)) = some (r1, r2, r3) := by first | (rw [hy196]; with_reducible exact H) | (have H2_ := (Option.bind_some _ _).symm.trans H; rw [hy196]; with_reducible exact H2_) | (have H2_ := (Option.bind_some _ _).symm.trans H; with_reducible exact H2_) | with_reducible exact H | (rw [hy196]; exact H) | exact H
    have Ny196 := Aside0.mk hy196
    clear hy196
    simp only [Option.some.injEq, Prod.mk.injEq] at H
    obtain ⟨rfl, rfl, rfl⟩ := H
    go_enter Tryz.func46, Tryz.ntmps46
    go_wp2_with (first | ((with_reducible refine gate_dst (N := 2) rfl ?_); (try (refine gate_guard (by rfl) ?_; dsimp only)); refine box_event ?hg (N := 2) ?hd (cs := #[.int .u8 0, .slice none 0 0]) (t := 67) ?hr ?_; (case hd => rfl); (case hg => rfl); (case hr => first | (go_simp; done) | (go_simp; rfl)); intro gb195 hg w3 hbox hb; have n0_ := Aside0.mk (below_step (by repeat (first | (with_reducible first | exact HB.out | apply below_alloc | apply pw_below_drewN | apply below_drew1) | exact HB.out)) hb); have n1_ := Aside0.mk (hbox); have n2_ := Aside0.mk ((by rw [hg]; exact (below_size (by repeat (first | (with_reducible first | exact HB.out | apply below_alloc | apply pw_below_drewN | apply below_drew1) | exact HB.out))) : w.heap.size ≤ gb195)); have n3_ := Aside0.mk ((by rw [hg]; exact (below_size (by repeat (first | (with_reducible first | exact HB.out | apply below_alloc | apply pw_below_drewN | apply below_drew1) | exact HB.out))) : w.heap.size ≤ gb195)); clear HB; have HB := n0_; have BK195 := n1_; have GW195 := n2_; have GE195 := n3_; clear n0_ n1_ n2_ n3_; clear hb hbox hg) | ((with_reducible refine gate_dst (N := 9) rfl ?_); (try (refine gate_guard (by rfl) ?_; dsimp only)); refine Kd.R_lit k67 _ 67 ?hg (N := 9) ?hd (xs := ([] : List (S67))) (inner := []) (ok := fun _ => True) (okp := fun _ => True) ?hr ?hp (fun _ hk => hk) trivial (Below.refl _ _) (Nat.le_refl _) (by simp) ?_; (case hd => rfl); (case hg => rfl); (case hr => first | (go_simp; done) | (go_simp; rfl)); (case hp => exact (Reps.none _ _)); intro v197 w4 ho5 hb hg_ hnew_; clear hg_ hnew_; (first | rw [← Ny196.out] at ho5 | (simp only [Int.reduceToNat] at ho5; rw [← Ny196.out] at ho5)); have n0_ := Aside0.mk (Kd.R_lower (Kd.R_newB ho5 (g := gb195) (o := .cells #[.int .u8 0, .slice none 0 0] 67 (0, 0)) (by (with_reducible repeat (first | refine blk_drewN ?_ _ | refine blk_drew ?_ | refine blk_alloc ?_ _)); exact BK195.out)) (below_size (by repeat (first | (with_reducible first | exact HB.out | apply below_alloc | apply pw_below_drewN | apply below_drew1 | refine below_set ?_ GE195.out) | exact HB.out)))); have n1_ := Aside0.mk (blk_below (g := gb195) (o := .cells #[.int .u8 0, .slice none 0 0] 67 (0, 0)) (by (with_reducible repeat (first | refine blk_drewN ?_ _ | refine blk_drew ?_ | refine blk_alloc ?_ _)); exact BK195.out) hb); have n2_ := Aside0.mk (below_step (by repeat (first | (with_reducible first | exact HB.out | apply below_alloc | apply pw_below_drewN | apply below_drew1 | refine below_set ?_ GE195.out) | exact HB.out)) hb); clear BK195; clear HB; have HO198 := n0_; have BK195 := n1_; have HB := n2_; clear n0_ n1_ n2_; clear hb ho5; obtain ⟨Ao6, co6, eo6⟩ := Kd.R_slice HO198.out; subst eo6; have hcz7_0 : w4.cell? ⟨gb195, 0, none⟩ = some (.int .u8 0) := (blk_cell BK195.out 0).trans rfl; have hcz7_1 : w4.cell? ⟨gb195, 1, none⟩ = some (.slice none 0 0) := (blk_cell BK195.out 1).trans rfl; have hfz7_0 := blk_frozen BK195.out 0; have hfz7_1 := blk_frozen BK195.out 1))
    refine bodyPost_ret (results_ct rfl _ _ gb195 67 #[.int .u8 110, .slice Ao6 y196.length co6] (0, 0) _ rfl (by (with_reducible repeat (first | refine blk_drewN ?_ _ | refine blk_drew ?_ | refine blk_alloc ?_ _)); refine blk_put (cs := #[.int .u8 110, .slice none 0 0]) ?_ 1 _ rfl; (with_reducible repeat (first | refine blk_drewN ?_ _ | refine blk_drew ?_ | refine blk_alloc ?_ _)); refine blk_put (cs := #[.int .u8 0, .slice none 0 0]) ?_ 0 _ rfl; (with_reducible repeat (first | refine blk_drewN ?_ _ | refine blk_drew ?_ | refine blk_alloc ?_ _)); exact BK195.out) Tryz.underlying67 rfl (by kernel_rfl)) rfl ?_
    exact ⟨_, by first | rfl | (simp [errW_none, errW_some] <;> rfl) | (simp [*, errW_none, errW_some] <;> rfl) | (exfalso; simp_all; done), by (with_reducible repeat (first | apply Kd.R_alloc | apply Kd.R_drewN | apply Kd.R_drew)); exact Kd.R_mono (Kd.R_far (p := ⟨gb195, 1, none⟩) (Kd.R_far (p := ⟨gb195, 0, none⟩) (Kd.R_mono HO198.out (fun k_ hk => (⟨hk, hk.2⟩ : _ ∧ k_ ≠ gb195))) (fun _ hk => hk.2) (.int .u8 110)) (fun _ hk => hk.2) (.slice Ao6 y196.length co6)) (fun _ hk => trivial), by repeat (first | (with_reducible first | exact HB.out | apply below_alloc | apply pw_below_drewN | apply below_drew1 | refine below_set ?_ GE195.out) | exact HB.out)⟩
  · rw [if_neg c2] at H
    have c2b0 : decide (60 < (a0.size : Int)) = false := decide_eq_false c2
    have c2b1 : decide (60 < a0.size) = false := decide_eq_false (by omega)
    clear c2
    replace H := Option.bind_eq_some_iff.mp H
    obtain ⟨⟨t199, t200, t203⟩, A80, H⟩ := H
    replace H : (if t203 > 0 then (some (t199, t200, (t203 == (a0.size : Int)))) else (some (t199, t200, false))) = some (r1, r2, r3) := H
    have A8 := Aside0.mk A80
    clear A80
    by_cases c9 : t203 > 0
    · rw [if_pos c9] at H
      have c9b0 : decide (0 < t203) = true := decide_eq_true c9
      clear c9
      simp only [Option.some.injEq, Prod.mk.injEq] at H
      obtain ⟨rfl, rfl, rfl⟩ := H
      go_enter Tryz.func46, Tryz.ntmps46
      go_wp2_with (first | ((with_reducible refine gate_dst (N := 2) rfl ?_); (try (refine gate_guard (by rfl) ?_; dsimp only)); refine box_event ?hg (N := 2) ?hd (cs := #[.int .u8 0, .slice none 0 0]) (t := 67) ?hr ?_; (case hd => rfl); (case hg => rfl); (case hr => first | (go_simp; done) | (go_simp; rfl)); intro gb195 hg w10 hbox hb; have n0_ := Aside0.mk (below_step (by repeat (first | (with_reducible first | exact HB.out | apply below_alloc | apply pw_below_drewN | apply below_drew1) | exact HB.out)) hb); have n1_ := Aside0.mk (hbox); have n2_ := Aside0.mk ((by rw [hg]; exact (below_size (by repeat (first | (with_reducible first | exact HB.out | apply below_alloc | apply pw_below_drewN | apply below_drew1) | exact HB.out))) : w.heap.size ≤ gb195)); have n3_ := Aside0.mk ((by rw [hg]; exact (below_size (by repeat (first | (with_reducible first | exact HB.out | apply below_alloc | apply pw_below_drewN | apply below_drew1) | exact HB.out))) : w.heap.size ≤ gb195)); clear HB; have HB := n0_; have BK195 := n1_; have GW195 := n2_; have GE195 := n3_; clear n0_ n1_ n2_ n3_; clear hb hbox hg) | ((with_reducible refine gate_callee (f := 110) rfl ?_); refine goesL_ (some 13) rfl rfl Tryz.func110 (by kernel_rfl) rfl #[.string a0, .int .i64 0] rfl (by (try simp only [List.map_toArray, List.map_cons, List.map_nil]); first | done | rfl | (simp only [List.length_drop, List.length_take]; rfl)) ?_; (with_reducible refine (spec_l10Read.calls a0 0 t199 t200 t203 _ A8.out).mono ?_); rintro e w11 ⟨v201, rfl, ho0, hb⟩; refine ⟨_, rfl, ?_⟩; have n0_ := Aside0.mk (Kd.R_lower (Kd.R_newB ho0 (g := gb195) (o := .cells #[.int .u8 0, .slice none 0 0] 67 (0, 0)) (by (with_reducible repeat (first | refine blk_drewN ?_ _ | refine blk_drew ?_ | refine blk_alloc ?_ _)); exact BK195.out)) (below_size (by repeat (first | (with_reducible first | exact HB.out | apply below_alloc | apply pw_below_drewN | apply below_drew1 | refine below_set ?_ GE195.out) | exact HB.out)))); have n1_ := Aside0.mk (blk_below (g := gb195) (o := .cells #[.int .u8 0, .slice none 0 0] 67 (0, 0)) (by (with_reducible repeat (first | refine blk_drewN ?_ _ | refine blk_drew ?_ | refine blk_alloc ?_ _)); exact BK195.out) hb); have n2_ := Aside0.mk (below_step (by repeat (first | (with_reducible first | exact HB.out | apply below_alloc | apply pw_below_drewN | apply below_drew1 | refine below_set ?_ GE195.out) | exact HB.out)) hb); clear BK195; clear HB; have HO202 := n0_; have BK195 := n1_; have HB := n2_; clear n0_ n1_ n2_; (try clear hb); (try clear hb2); (try clear hk); (try clear hi); (try clear ho0)) | ((with_reducible refine gate_dst (N := 4) rfl ?_); (try (refine gate_guard (by rfl) ?_; dsimp only)); refine box_event ?hg (N := 4) ?hd (cs := #[.int .u8 0, .slice none 0 0]) (t := 67) ?hr ?_; (case hd => rfl); (case hg => rfl); (case hr => first | (go_simp; done) | (go_simp; rfl)); intro gb204 hg w12 hbox hb; have n0_ := Aside0.mk (Kd.R_below (Kd.R_elderB (by (with_reducible repeat (first | apply Kd.R_alloc | apply Kd.R_drewN | apply Kd.R_drew)); exact HO202.out) gb204 (Nat.le_of_eq hg.symm)) hb); have n1_ := Aside0.mk (blk_below (g := gb195) (o := .cells #[.int .u8 0, .slice none 0 0] 67 (0, 0)) (by (with_reducible repeat (first | refine blk_drewN ?_ _ | refine blk_drew ?_ | refine blk_alloc ?_ _)); exact BK195.out) hb); have n2_ := Aside0.mk (below_step (by repeat (first | (with_reducible first | exact HB.out | apply below_alloc | apply pw_below_drewN | apply below_drew1 | refine below_set ?_ GE195.out) | exact HB.out)) hb); have n3_ := Aside0.mk (hbox); have n4_ := Aside0.mk ((by rw [hg]; exact (below_size (by repeat (first | (with_reducible first | exact HB.out | apply below_alloc | apply pw_below_drewN | apply below_drew1 | refine below_set ?_ GE195.out) | exact HB.out))) : w.heap.size ≤ gb204)); have n5_ := Aside0.mk ((by rw [hg]; exact (below_size (by repeat (first | (with_reducible first | exact HB.out | apply below_alloc | apply pw_below_drewN | apply below_drew1 | refine below_set ?_ GE195.out) | exact HB.out))) : w.heap.size ≤ gb204)); have n6_ := Aside0.mk ((by rw [hg]; exact Nat.ne_of_lt (blk_lt (g := gb195) (o := .cells #[.int .u8 0, .slice none 0 0] 67 (0, 0)) (by (with_reducible repeat (first | refine blk_drewN ?_ _ | refine blk_drew ?_ | refine blk_alloc ?_ _)); exact BK195.out)) : gb195 ≠ gb204)); have n7_ := Aside0.mk ((by rw [hg]; exact Nat.ne_of_gt (blk_lt (g := gb195) (o := .cells #[.int .u8 0, .slice none 0 0] 67 (0, 0)) (by (with_reducible repeat (first | refine blk_drewN ?_ _ | refine blk_drew ?_ | refine blk_alloc ?_ _)); exact BK195.out)) : gb204 ≠ gb195)); clear HO202; clear BK195; clear HB; have HO202 := n0_; have BK195 := n1_; have HB := n2_; have BK204 := n3_; have GW204 := n4_; have GE204 := n5_; have NB195_204 := n6_; have NB204_195 := n7_; clear n0_ n1_ n2_ n3_ n4_ n5_ n6_ n7_; clear hb hbox hg; have hnb13 := NB204_195.out; have hnc13 := NB195_204.out; have hcz14_0 : w12.cell? ⟨gb204, 0, none⟩ = some (.int .u8 0) := (blk_cell BK204.out 0).trans rfl; have hcz14_1 : w12.cell? ⟨gb204, 1, none⟩ = some (.slice none 0 0) := (blk_cell BK204.out 1).trans rfl; have hfz14_0 := blk_frozen BK204.out 0; have hfz14_1 := blk_frozen BK204.out 1; obtain ⟨Ao15, co15, eo15⟩ := Kd.R_slice HO202.out; subst eo15; have hcz16_0 : w12.cell? ⟨gb195, 0, none⟩ = some (.int .u8 0) := (blk_cell BK195.out 0).trans rfl; have hcz16_1 : w12.cell? ⟨gb195, 1, none⟩ = some (.slice none 0 0) := (blk_cell BK195.out 1).trans rfl; have hfz16_0 := blk_frozen BK195.out 0; have hfz16_1 := blk_frozen BK195.out 1))
      refine bodyPost_ret (results_ct rfl _ _ gb195 67 #[.int .u8 t199, .slice Ao15 t200.length co15] (0, 0) _ rfl (by (with_reducible repeat (first | refine blk_drewN ?_ _ | refine blk_drew ?_ | refine blk_alloc ?_ _)); refine blk_put (cs := #[.int .u8 t199, .slice none 0 0]) ?_ 1 _ rfl; (with_reducible repeat (first | refine blk_drewN ?_ _ | refine blk_drew ?_ | refine blk_alloc ?_ _)); refine blk_put (cs := #[.int .u8 0, .slice none 0 0]) ?_ 0 _ rfl; (with_reducible repeat (first | refine blk_drewN ?_ _ | refine blk_drew ?_ | refine blk_alloc ?_ _)); refine blk_far ?_ NB195_204.out _; (with_reducible repeat (first | refine blk_drewN ?_ _ | refine blk_drew ?_ | refine blk_alloc ?_ _)); refine blk_far ?_ NB195_204.out _; (with_reducible repeat (first | refine blk_drewN ?_ _ | refine blk_drew ?_ | refine blk_alloc ?_ _)); exact BK195.out) Tryz.underlying67 rfl (by kernel_rfl)) rfl ?_
      exact ⟨_, by first | rfl | (simp [errW_none, errW_some] <;> rfl) | (simp [*, errW_none, errW_some] <;> rfl) | (exfalso; simp_all; done), by (with_reducible repeat (first | apply Kd.R_alloc | apply Kd.R_drewN | apply Kd.R_drew)); exact Kd.R_mono (Kd.R_far (p := ⟨gb195, 1, none⟩) (Kd.R_far (p := ⟨gb195, 0, none⟩) (Kd.R_far (p := ⟨gb204, 1, none⟩) (Kd.R_far (p := ⟨gb204, 0, none⟩) (Kd.R_mono (Kd.R_mono HO202.out (fun k_ hk => (⟨hk, hk.2⟩ : _ ∧ k_ ≠ gb204))) (fun k_ hk => (⟨hk, hk.1.1.2⟩ : _ ∧ k_ ≠ gb195))) (fun _ hk => hk.1.2) (.int .u8 t199)) (fun _ hk => hk.1.2) (.slice Ao15 t200.length co15)) (fun _ hk => hk.2) (.int .u8 t199)) (fun _ hk => hk.2) (.slice Ao15 t200.length co15)) (fun _ hk => trivial), by repeat (first | (with_reducible first | exact HB.out | apply below_alloc | apply pw_below_drewN | apply below_drew1 | refine below_set ?_ GE195.out | refine below_set ?_ GE204.out) | exact HB.out)⟩
    · rw [if_neg c9] at H
      have c9b0 : decide (0 < t203) = false := decide_eq_false c9
      clear c9
      simp only [Option.some.injEq, Prod.mk.injEq] at H
      obtain ⟨rfl, rfl, rfl⟩ := H
      go_enter Tryz.func46, Tryz.ntmps46
      go_wp2_with (first | ((with_reducible refine gate_dst (N := 2) rfl ?_); (try (refine gate_guard (by rfl) ?_; dsimp only)); refine box_event ?hg (N := 2) ?hd (cs := #[.int .u8 0, .slice none 0 0]) (t := 67) ?hr ?_; (case hd => rfl); (case hg => rfl); (case hr => first | (go_simp; done) | (go_simp; rfl)); intro gb195 hg w17 hbox hb; have n0_ := Aside0.mk (below_step (by repeat (first | (with_reducible first | exact HB.out | apply below_alloc | apply pw_below_drewN | apply below_drew1) | exact HB.out)) hb); have n1_ := Aside0.mk (hbox); have n2_ := Aside0.mk ((by rw [hg]; exact (below_size (by repeat (first | (with_reducible first | exact HB.out | apply below_alloc | apply pw_below_drewN | apply below_drew1) | exact HB.out))) : w.heap.size ≤ gb195)); have n3_ := Aside0.mk ((by rw [hg]; exact (below_size (by repeat (first | (with_reducible first | exact HB.out | apply below_alloc | apply pw_below_drewN | apply below_drew1) | exact HB.out))) : w.heap.size ≤ gb195)); clear HB; have HB := n0_; have BK195 := n1_; have GW195 := n2_; have GE195 := n3_; clear n0_ n1_ n2_ n3_; clear hb hbox hg) | ((with_reducible refine gate_callee (f := 110) rfl ?_); refine goesL_ (some 13) rfl rfl Tryz.func110 (by kernel_rfl) rfl #[.string a0, .int .i64 0] rfl (by (try simp only [List.map_toArray, List.map_cons, List.map_nil]); first | done | rfl | (simp only [List.length_drop, List.length_take]; rfl)) ?_; (with_reducible refine (spec_l10Read.calls a0 0 t199 t200 t203 _ A8.out).mono ?_); rintro e w18 ⟨v201, rfl, ho0, hb⟩; refine ⟨_, rfl, ?_⟩; have n0_ := Aside0.mk (Kd.R_lower (Kd.R_newB ho0 (g := gb195) (o := .cells #[.int .u8 0, .slice none 0 0] 67 (0, 0)) (by (with_reducible repeat (first | refine blk_drewN ?_ _ | refine blk_drew ?_ | refine blk_alloc ?_ _)); exact BK195.out)) (below_size (by repeat (first | (with_reducible first | exact HB.out | apply below_alloc | apply pw_below_drewN | apply below_drew1 | refine below_set ?_ GE195.out) | exact HB.out)))); have n1_ := Aside0.mk (blk_below (g := gb195) (o := .cells #[.int .u8 0, .slice none 0 0] 67 (0, 0)) (by (with_reducible repeat (first | refine blk_drewN ?_ _ | refine blk_drew ?_ | refine blk_alloc ?_ _)); exact BK195.out) hb); have n2_ := Aside0.mk (below_step (by repeat (first | (with_reducible first | exact HB.out | apply below_alloc | apply pw_below_drewN | apply below_drew1 | refine below_set ?_ GE195.out) | exact HB.out)) hb); clear BK195; clear HB; have HO202 := n0_; have BK195 := n1_; have HB := n2_; clear n0_ n1_ n2_; (try clear hb); (try clear hb2); (try clear hk); (try clear hi); (try clear ho0)) | ((with_reducible refine gate_dst (N := 4) rfl ?_); (try (refine gate_guard (by rfl) ?_; dsimp only)); refine box_event ?hg (N := 4) ?hd (cs := #[.int .u8 0, .slice none 0 0]) (t := 67) ?hr ?_; (case hd => rfl); (case hg => rfl); (case hr => first | (go_simp; done) | (go_simp; rfl)); intro gb204 hg w19 hbox hb; have n0_ := Aside0.mk (Kd.R_below (Kd.R_elderB (by (with_reducible repeat (first | apply Kd.R_alloc | apply Kd.R_drewN | apply Kd.R_drew)); exact HO202.out) gb204 (Nat.le_of_eq hg.symm)) hb); have n1_ := Aside0.mk (blk_below (g := gb195) (o := .cells #[.int .u8 0, .slice none 0 0] 67 (0, 0)) (by (with_reducible repeat (first | refine blk_drewN ?_ _ | refine blk_drew ?_ | refine blk_alloc ?_ _)); exact BK195.out) hb); have n2_ := Aside0.mk (below_step (by repeat (first | (with_reducible first | exact HB.out | apply below_alloc | apply pw_below_drewN | apply below_drew1 | refine below_set ?_ GE195.out) | exact HB.out)) hb); have n3_ := Aside0.mk (hbox); have n4_ := Aside0.mk ((by rw [hg]; exact (below_size (by repeat (first | (with_reducible first | exact HB.out | apply below_alloc | apply pw_below_drewN | apply below_drew1 | refine below_set ?_ GE195.out) | exact HB.out))) : w.heap.size ≤ gb204)); have n5_ := Aside0.mk ((by rw [hg]; exact (below_size (by repeat (first | (with_reducible first | exact HB.out | apply below_alloc | apply pw_below_drewN | apply below_drew1 | refine below_set ?_ GE195.out) | exact HB.out))) : w.heap.size ≤ gb204)); have n6_ := Aside0.mk ((by rw [hg]; exact Nat.ne_of_lt (blk_lt (g := gb195) (o := .cells #[.int .u8 0, .slice none 0 0] 67 (0, 0)) (by (with_reducible repeat (first | refine blk_drewN ?_ _ | refine blk_drew ?_ | refine blk_alloc ?_ _)); exact BK195.out)) : gb195 ≠ gb204)); have n7_ := Aside0.mk ((by rw [hg]; exact Nat.ne_of_gt (blk_lt (g := gb195) (o := .cells #[.int .u8 0, .slice none 0 0] 67 (0, 0)) (by (with_reducible repeat (first | refine blk_drewN ?_ _ | refine blk_drew ?_ | refine blk_alloc ?_ _)); exact BK195.out)) : gb204 ≠ gb195)); clear HO202; clear BK195; clear HB; have HO202 := n0_; have BK195 := n1_; have HB := n2_; have BK204 := n3_; have GW204 := n4_; have GE204 := n5_; have NB195_204 := n6_; have NB204_195 := n7_; clear n0_ n1_ n2_ n3_ n4_ n5_ n6_ n7_; clear hb hbox hg; have hnb20 := NB204_195.out; have hnc20 := NB195_204.out; have hcz21_0 : w19.cell? ⟨gb204, 0, none⟩ = some (.int .u8 0) := (blk_cell BK204.out 0).trans rfl; have hcz21_1 : w19.cell? ⟨gb204, 1, none⟩ = some (.slice none 0 0) := (blk_cell BK204.out 1).trans rfl; have hfz21_0 := blk_frozen BK204.out 0; have hfz21_1 := blk_frozen BK204.out 1; obtain ⟨Ao22, co22, eo22⟩ := Kd.R_slice HO202.out; subst eo22; have hcz23_0 : w19.cell? ⟨gb195, 0, none⟩ = some (.int .u8 0) := (blk_cell BK195.out 0).trans rfl; have hcz23_1 : w19.cell? ⟨gb195, 1, none⟩ = some (.slice none 0 0) := (blk_cell BK195.out 1).trans rfl; have hfz23_0 := blk_frozen BK195.out 0; have hfz23_1 := blk_frozen BK195.out 1))
      refine bodyPost_ret (results_ct rfl _ _ gb195 67 #[.int .u8 t199, .slice Ao22 t200.length co22] (0, 0) _ rfl (by (with_reducible repeat (first | refine blk_drewN ?_ _ | refine blk_drew ?_ | refine blk_alloc ?_ _)); refine blk_put (cs := #[.int .u8 t199, .slice none 0 0]) ?_ 1 _ rfl; (with_reducible repeat (first | refine blk_drewN ?_ _ | refine blk_drew ?_ | refine blk_alloc ?_ _)); refine blk_put (cs := #[.int .u8 0, .slice none 0 0]) ?_ 0 _ rfl; (with_reducible repeat (first | refine blk_drewN ?_ _ | refine blk_drew ?_ | refine blk_alloc ?_ _)); refine blk_far ?_ NB195_204.out _; (with_reducible repeat (first | refine blk_drewN ?_ _ | refine blk_drew ?_ | refine blk_alloc ?_ _)); refine blk_far ?_ NB195_204.out _; (with_reducible repeat (first | refine blk_drewN ?_ _ | refine blk_drew ?_ | refine blk_alloc ?_ _)); exact BK195.out) Tryz.underlying67 rfl (by kernel_rfl)) rfl ?_
      exact ⟨_, by first | rfl | (simp [errW_none, errW_some] <;> rfl) | (simp [*, errW_none, errW_some] <;> rfl) | (exfalso; simp_all; done), by (with_reducible repeat (first | apply Kd.R_alloc | apply Kd.R_drewN | apply Kd.R_drew)); exact Kd.R_mono (Kd.R_far (p := ⟨gb195, 1, none⟩) (Kd.R_far (p := ⟨gb195, 0, none⟩) (Kd.R_far (p := ⟨gb204, 1, none⟩) (Kd.R_far (p := ⟨gb204, 0, none⟩) (Kd.R_mono (Kd.R_mono HO202.out (fun k_ hk => (⟨hk, hk.2⟩ : _ ∧ k_ ≠ gb204))) (fun k_ hk => (⟨hk, hk.1.1.2⟩ : _ ∧ k_ ≠ gb195))) (fun _ hk => hk.1.2) (.int .u8 t199)) (fun _ hk => hk.1.2) (.slice Ao22 t200.length co22)) (fun _ hk => hk.2) (.int .u8 t199)) (fun _ hk => hk.2) (.slice Ao22 t200.length co22)) (fun _ hk => trivial), by repeat (first | (with_reducible first | exact HB.out | apply below_alloc | apply pw_below_drewN | apply below_drew1 | refine below_set ?_ GE195.out | refine below_set ?_ GE204.out) | exact HB.out)⟩

/-! ### spec_l10Turned: function 111 -/
def spec_l10Turned.l0 : Nat → Int → Int → Int → Option (Int)
  | 0, _, _, _ => none
  | k + 1, x0, x1, x5 => if x5 < x1 then (if x0 = 101 then (spec_l10Turned.l0 k 110 x1 (wrap64 (x5 + 1))) else (if x0 = 110 then (spec_l10Turned.l0 k 119 x1 (wrap64 (x5 + 1))) else (if x0 = 119 then (spec_l10Turned.l0 k 115 x1 (wrap64 (x5 + 1))) else (spec_l10Turned.l0 k 101 x1 (wrap64 (x5 + 1)))))) else (some x0)
def spec_l10Turned.f (k : Nat) (a0 : Int) (a1 : Int) : Option (Int) := spec_l10Turned.l0 k a0 a1 0
theorem spec_l10Turned.mono_l : ∀ k, (∀ y0 y1 y2, LeO (spec_l10Turned.l0 k y0 y1 y2) (spec_l10Turned.l0 (k + 1) y0 y1 y2))
  | 0 => fun _ _ _ r h => by simp [spec_l10Turned.l0] at h
  | k + 1 => by
    have ih0 := spec_l10Turned.mono_l k
    · intro y0 y1 y2
      unfold spec_l10Turned.l0
      repeat' first
      | (with_reducible exact ih0 _ _ _)
      | (with_reducible exact LeO.refl _)
      | (with_reducible exact LeO.none _)
      | (with_reducible refine LeO.ite ?_ ?_)
      | (with_reducible refine LeO.bind ?_ (fun _ => ?_))
      | exact ih0 _ _ _
      | exact LeO.none _
      | refine LeO.ite ?_ ?_
      | refine LeO.bind ?_ (fun _ => ?_)
theorem spec_l10Turned.mono : ∀ a0 a1 k, LeO (spec_l10Turned.f k a0 a1) (spec_l10Turned.f (k + 1) a0 a1) := by
  intro a0 a1 k
  have ih0 := spec_l10Turned.mono_l k
  unfold spec_l10Turned.f
  repeat' first
      | (with_reducible exact ih0 _ _ _)
      | (with_reducible exact LeO.refl _)
      | (with_reducible exact LeO.none _)
      | (with_reducible refine LeO.ite ?_ ?_)
      | (with_reducible refine LeO.bind ?_ (fun _ => ?_))
      | exact ih0 _ _ _
      | exact LeO.none _
      | refine LeO.ite ?_ ?_
      | refine LeO.bind ?_ (fun _ => ?_)
set_option maxHeartbeats 8000000 in
set_option maxRecDepth 100000 in
theorem spec_l10Turned.calls (k : Nat) (a0 : Int) (a1 : Int) (r : Int) (w : World) (h : spec_l10Turned.f k a0 a1 = some r) :
    Calls Tryz.prog 111 #[.int .u8 a0, .int .i64 a1] w fun e w' => e = .returned (.int .u8 r) ∧ Drawn0 w w' := by
  have H : (spec_l10Turned.l0 k a0 a1 0) = some r := h
  clear h
  have H' := Aside0.mk H
  clear H
  go_enter Tryz.func111, Tryz.ntmps111
  go_wp2
  go_loopg [0, 5] k (fun kq v0 v5 w' => ∃ (x0_1 : Int) (x5_1 : Int), v0 = .int .u8 x0_1 ∧ v5 = .int .i64 x5_1 ∧ Aside0 (spec_l10Turned.l0 kq x0_1 a1 x5_1 = some r) ∧ Aside0 (kq ≤ k) ∧ Drawn0 w w')
  case atStart => exact ⟨(a0), (0), (by first | rfl | (simp; done) | (simp [*]; done)), (by first | rfl | (simp; done) | (simp [*]; done)), H', ⟨Nat.le_refl _⟩, by repeat (first | exact Drawn0.refl _ | apply Drawn0.step)⟩
  case round =>
    clear H'
    try clear c1
    try clear p2
    obtain ⟨x0_1, x5_1, rfl, rfl, HA, HK1, ⟨m1, rfl⟩⟩ := hrel
    cases gk with
    | zero => exact absurd HA.out (by simp [spec_l10Turned.l0])
    | succ k1 =>
      have H := HA.out
      clear HA
      simp only [spec_l10Turned.l0] at H
      by_cases c3 : x5_1 < a1
      · rw [if_pos c3] at H
        have c3b0 : decide (x5_1 < a1) = true := decide_eq_true c3
        clear c3
        by_cases c4 : x0_1 = 101
        · rw [if_pos c4] at H
          have c4b0 : (x0_1 == 101) = true := beq_iff_eq.mpr c4
          have c4b1 : (x0_1 != 101) = false := bne_eq_false_iff_eq.mpr c4
          clear c4
          have H' := Aside0.mk H
          clear H
          go_wp2
          go_roundg k1
          case measure => have := HK1.out; omega
          case rel => exact ⟨(110), (wrap64 (x5_1 + 1)), (by first | rfl | (simp; done) | (simp [*]; done)), (by first | rfl | (simp; done) | (simp [*]; done)), H', ⟨by have := HK1.out; omega⟩, by repeat (first | exact Drawn0.refl _ | apply Drawn0.step)⟩
        · rw [if_neg c4] at H
          have c4b0 : (x0_1 == 101) = false := beq_eq_false_iff_ne.mpr c4
          have c4b1 : (x0_1 != 101) = true := bne_iff_ne.mpr c4
          by_cases c5 : x0_1 = 110
          · rw [if_pos c5] at H
            have c5b0 : (x0_1 == 110) = true := beq_iff_eq.mpr c5
            have c5b1 : (x0_1 != 110) = false := bne_eq_false_iff_eq.mpr c5
            clear c5
            have H' := Aside0.mk H
            clear H
            go_wp2
            go_roundg k1
            case measure => have := HK1.out; omega
            case rel => exact ⟨(119), (wrap64 (x5_1 + 1)), (by first | rfl | (simp; done) | (simp [*]; done)), (by first | rfl | (simp; done) | (simp [*]; done)), H', ⟨by have := HK1.out; omega⟩, by repeat (first | exact Drawn0.refl _ | apply Drawn0.step)⟩
          · rw [if_neg c5] at H
            have c5b0 : (x0_1 == 110) = false := beq_eq_false_iff_ne.mpr c5
            have c5b1 : (x0_1 != 110) = true := bne_iff_ne.mpr c5
            by_cases c6 : x0_1 = 119
            · rw [if_pos c6] at H
              have c6b0 : (x0_1 == 119) = true := beq_iff_eq.mpr c6
              have c6b1 : (x0_1 != 119) = false := bne_eq_false_iff_eq.mpr c6
              clear c6
              have H' := Aside0.mk H
              clear H
              go_wp2
              go_roundg k1
              case measure => have := HK1.out; omega
              case rel => exact ⟨(115), (wrap64 (x5_1 + 1)), (by first | rfl | (simp; done) | (simp [*]; done)), (by first | rfl | (simp; done) | (simp [*]; done)), H', ⟨by have := HK1.out; omega⟩, by repeat (first | exact Drawn0.refl _ | apply Drawn0.step)⟩
            · rw [if_neg c6] at H
              have c6b0 : (x0_1 == 119) = false := beq_eq_false_iff_ne.mpr c6
              have c6b1 : (x0_1 != 119) = true := bne_iff_ne.mpr c6
              have H' := Aside0.mk H
              clear H
              go_wp2
              go_roundg k1
              case measure => have := HK1.out; omega
              case rel => exact ⟨(101), (wrap64 (x5_1 + 1)), (by first | rfl | (simp; done) | (simp [*]; done)), (by first | rfl | (simp; done) | (simp [*]; done)), H', ⟨by have := HK1.out; omega⟩, by repeat (first | exact Drawn0.refl _ | apply Drawn0.step)⟩
      · rw [if_neg c3] at H
        have c3b0 : decide (x5_1 < a1) = false := decide_eq_false c3
        clear c3
        obtain rfl := Option.some.inj H
        go_wp2
        go_ret
        exact ⟨by first | rfl | (simp; done) | (simp [*]; done), by repeat (first | exact Drawn0.refl _ | apply Drawn0.step)⟩

end Go.Proofs.YtcmpkabpmmmhoaaGreatDoor.PFnExecuteTidy
