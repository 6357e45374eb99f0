/- Written by a program of this claim out of the translation: plain Lean functions and their contracts; what is proved: each Go function of this text comes to what its Lean function says. -/
import Derived.Test.YtdjbnbkblhfjiaaPFnExactTermClosesx0
import Derived.Test.YtdjbnbkblhfjiaaPFnExactTermClosesx3
import Derived.Test.YtdjbnbkblhfjiaaPFnExactTermClosesx4
import Derived.Test.YtdjbnbkblhfjiaaPFnExactTermClosesx5
namespace Go.Proofs.Ytdjbnbkblhfjiaa.PFnExactTermCloses
open Go.RowKit Go.Proofs.YtdjbnbkblhfjiaaW.PrintWords Go.Proofs.YtdjbnbkblhfjiaaW.PrintLast Go.Proofs.YtdjbnbkblhfjiaaW.PrintMore
attribute [local go_sem] max2_int min2_int max_two min_two max_three min_three max_four min_four   -- for this text's walks alone
set_option linter.unusedVariables false
set_option linter.unusedSimpArgs false

/-! ### impl_term_measure: function 27, by hand -/
def impl_term_measure.f : Nat → Int → List S37 → Option (Int × Int × Int)
  | 0, _, _ => none
  | k + 1, c, l =>
    if (l.length : Int) = 0 then (if c = 101 then some (1, 0, 0) else (if c = 110 then some (0, 1, 0) else (if c = 119 then some ((-1), 0, 0) else (if c = 115 then some (0, (-1), 0) else none))))
    else (impl_term_measure.f k ((rd_T37 l 0).f0) ((rd_T37 l 0).f1)).bind fun t =>
      (if c = 64 then some (wrap64 (-t.2.1), t.1, t.2.2)
      else (if c = 45 then some (wrap64 (-t.1), wrap64 (-t.2.1), wrap64 (-t.2.2))
      else (if c = 40 then
        (if 1 < (l.length : Int) then (impl_term_measure.f k ((rd_T37 l 1).f0) ((rd_T37 l 1).f1)).bind fun u =>
          (some (wrap64 (t.1 + u.1), wrap64 (t.2.1 + u.2.1), wrap64 (wrap64 (wrap64 (t.2.2 + u.2.2) + wrap64 (t.1 * u.2.1)) - wrap64 (t.2.1 * u.1)))) else none)
      else some (wrap64 (((c - 48) % 256) * t.1), wrap64 (((c - 48) % 256) * t.2.1), wrap64 (((c - 48) % 256) * t.2.2)))))
theorem impl_term_measure.mono_l : ∀ k, (∀ y0 y1, LeO (impl_term_measure.f k y0 y1) (impl_term_measure.f (k + 1) y0 y1))
  | 0 => fun _ _ r h => by simp [impl_term_measure.f] at h
  | k + 1 => by
    have ih0 := impl_term_measure.mono_l k
    · intro y0 y1
      unfold impl_term_measure.f
      repeat' first
      | (with_reducible exact ih0 _ _)
      | (with_reducible exact LeO.refl _)
      | (with_reducible exact LeO.none _)
      | (with_reducible refine LeO.ite ?_ ?_)
      | (with_reducible refine LeO.bind ?_ (fun _ => ?_))
      | exact ih0 _ _
      | exact LeO.none _
      | refine LeO.ite ?_ ?_
      | refine LeO.bind ?_ (fun _ => ?_)
theorem impl_term_measure.mono : ∀ a0 a1 k, LeO (impl_term_measure.f k a0 a1) (impl_term_measure.f (k + 1) a0 a1) := by
  intro a0 a1 k
  have ih0 := impl_term_measure.mono_l k
  exact ih0 a0 a1
set_option maxHeartbeats 1000000 in
set_option maxRecDepth 100000 in
theorem impl_term_measure.at_leaf (c : Int) (A : Option Addr) (n : Nat) (w : World) (x y : Int) (h : (c = 101 ∧ x = 1 ∧ y = 0) ∨ (c = 110 ∧ x = 0 ∧ y = 1) ∨ (c = 119 ∧ x = -1 ∧ y = 0) ∨ (c = 115 ∧ x = 0 ∧ y = -1)) :
    Calls Try.prog 27 #[.agg #[.int .u8 c, .slice A 0 n]] w fun e w' => e = .returned (.tuple #[.int .i64 x, .int .i64 y, .int .i64 0]) ∧ Below w.heap.size w w' := by
  have hu34 := Try.underlying37
  have hw : ∀ u k, impl_wayOf.f c = some u → u = k → ∀ w, Calls Try.prog 33 #[.int .u8 c] w fun e w' => e = .returned (.int .i64 k) ∧ Drawn0 w w' := by
    intro u k h hk w
    subst hk
    exact impl_wayOf.calls _ _ _ h
  have i0 : ∀ (x0 x1 x2 x3 : Value) (w : World), (Instr.index 52 (.agg #[x0, x1, x2, x3]) (.int .i64 0)).run Try.prog w = .ok x0 w := fun _ _ _ _ _ => by kernel_rfl
  have i1 : ∀ (x0 x1 x2 x3 : Value) (w : World), (Instr.index 52 (.agg #[x0, x1, x2, x3]) (.int .i64 1)).run Try.prog w = .ok x1 w := fun _ _ _ _ _ => by kernel_rfl
  have i2 : ∀ (x0 x1 x2 x3 : Value) (w : World), (Instr.index 52 (.agg #[x0, x1, x2, x3]) (.int .i64 2)).run Try.prog w = .ok x2 w := fun _ _ _ _ _ => by kernel_rfl
  have i3 : ∀ (x0 x1 x2 x3 : Value) (w : World), (Instr.index 52 (.agg #[x0, x1, x2, x3]) (.int .i64 3)).run Try.prog w = .ok x3 w := fun _ _ _ _ _ => by kernel_rfl
  rcases h with ⟨rfl, rfl, rfl⟩ | ⟨rfl, rfl, rfl⟩ | ⟨rfl, rfl, rfl⟩ | ⟨rfl, rfl, rfl⟩
  · have HW := Lib.hid (hw _ 0 rfl (by decide +kernel))
    clear hw
    go_enter Try.func27, Try.ntmps27
    go_wp2_with (go_at_call 33; refine (HW.out _).mono ?_; rintro e w1 ⟨rfl, ⟨⟨m, rfl⟩⟩⟩)
    go_quiet (fail)
    go_wp2
    go_ret3
    exact ⟨rfl, by repeat (first | exact Below.refl _ _ | apply below_alloc | apply pw_below_drewN | apply below_drew1)⟩
  · have HW := Lib.hid (hw _ 1 rfl (by decide +kernel))
    clear hw
    go_enter Try.func27, Try.ntmps27
    go_wp2_with (go_at_call 33; refine (HW.out _).mono ?_; rintro e w1 ⟨rfl, ⟨⟨m, rfl⟩⟩⟩)
    go_quiet (fail)
    go_wp2
    go_ret3
    exact ⟨rfl, by repeat (first | exact Below.refl _ _ | apply below_alloc | apply pw_below_drewN | apply below_drew1)⟩
  · have HW := Lib.hid (hw _ 2 rfl (by decide +kernel))
    clear hw
    go_enter Try.func27, Try.ntmps27
    go_wp2_with (go_at_call 33; refine (HW.out _).mono ?_; rintro e w1 ⟨rfl, ⟨⟨m, rfl⟩⟩⟩)
    go_quiet (fail)
    go_wp2
    go_ret3
    exact ⟨rfl, by repeat (first | exact Below.refl _ _ | apply below_alloc | apply pw_below_drewN | apply below_drew1)⟩
  · have HW := Lib.hid (hw _ 3 rfl (by decide +kernel))
    clear hw
    go_enter Try.func27, Try.ntmps27
    go_wp2_with (go_at_call 33; refine (HW.out _).mono ?_; rintro e w1 ⟨rfl, ⟨⟨m, rfl⟩⟩⟩)
    go_quiet (fail)
    go_wp2
    go_ret3
    exact ⟨rfl, by repeat (first | exact Below.refl _ _ | apply below_alloc | apply pw_below_drewN | apply below_drew1)⟩
set_option maxHeartbeats 2000000 in
set_option maxRecDepth 100000 in
theorem impl_term_measure.at_turn (c : Int) (A : Option Addr) (n : Nat) (l : List S37) (w : World) (hr : Kd.C k37 w A l.length l) (hlen : 0 < l.length) (hne : ((l.length : Int) == 0) = false) (x y z : Int)
    (ih : ∀ A1 c1 w', Kd.C k37 w' A1 (rd_T37 l 0).f1.length (rd_T37 l 0).f1 → (rd_T37 l 0).f1.length ≤ c1 → Calls Try.prog 27 #[.agg #[.int .u8 (rd_T37 l 0).f0, .slice A1 (rd_T37 l 0).f1.length c1]] w' fun e w'' => e = .returned (.tuple #[.int .i64 x, .int .i64 y, .int .i64 z]) ∧ Below w'.heap.size w' w'')
    (h1 : (c == 64) = true) :
    Calls Try.prog 27 #[.agg #[.int .u8 c, .slice A l.length n]] w fun e w' => e = .returned (.tuple #[.int .i64 (wrap64 (-y)), .int .i64 x, .int .i64 z]) ∧ Below w.heap.size w w' := by
  have hu34 := Try.underlying37
  have hlI : (0 : Int) < l.length := by omega
  obtain ⟨ad, A1, c1, rfl, e0, e1, hl1, hC1⟩ := at_T37 hr 0 (by omega) (by omega)
  have IH := Lib.hid ih
  have HC := Lib.hid hC1
  have HL := Lib.hid hl1
  clear ih hr hC1 hl1
  rw [show ((0 : Int)).toNat = 0 from rfl, show 0 * 2 = 0 from rfl, Addr.add_zero'] at e0 e1
  have hlt : ad.block < w.heap.size := World.block_lt_of_cell? w _ e0
  have hb0 := Lib.hid (below_alloc (Below.refl w.heap.size w) (.cells #[.int .u8 c, .slice (some ad) l.length n] 37))
  go_enter Try.func27, Try.ntmps27
  go_wp2_with fail
  refine (IH.out A1 c1 _ (Kd.C_below HC.out hb0.out) HL.out).mono ?_
  rintro e w1 ⟨rfl, hb⟩
  have hb1 := Lib.hid (below_step hb0.out hb)
  have HK := Lib.hid (blk_below (heap_alloc_new w (.cells #[.int .u8 c, .slice (some ad) l.length n] 37)) hb)
  have p0 : w1.cell? ⟨w.heap.size, 0, none⟩ = some (.int .u8 c) := blk_cell HK.out 0
  have p1 : w1.cell? ⟨w.heap.size, 1, none⟩ = some (.slice (some ad) l.length n) := blk_cell HK.out 1
  clear hb e0 e1
  go_wp2_with fail
  go_ret3
  exact ⟨rfl, hb1.out⟩
set_option maxHeartbeats 2000000 in
set_option maxRecDepth 100000 in
theorem impl_term_measure.at_back (c : Int) (A : Option Addr) (n : Nat) (l : List S37) (w : World) (hr : Kd.C k37 w A l.length l) (hlen : 0 < l.length) (hne : ((l.length : Int) == 0) = false) (x y z : Int)
    (ih : ∀ A1 c1 w', Kd.C k37 w' A1 (rd_T37 l 0).f1.length (rd_T37 l 0).f1 → (rd_T37 l 0).f1.length ≤ c1 → Calls Try.prog 27 #[.agg #[.int .u8 (rd_T37 l 0).f0, .slice A1 (rd_T37 l 0).f1.length c1]] w' fun e w'' => e = .returned (.tuple #[.int .i64 x, .int .i64 y, .int .i64 z]) ∧ Below w'.heap.size w' w'')
    (h1 : (c == 64) = false) (h2 : (c == 45) = true) :
    Calls Try.prog 27 #[.agg #[.int .u8 c, .slice A l.length n]] w fun e w' => e = .returned (.tuple #[.int .i64 (wrap64 (-x)), .int .i64 (wrap64 (-y)), .int .i64 (wrap64 (-z))]) ∧ Below w.heap.size w w' := by
  have hu34 := Try.underlying37
  have hlI : (0 : Int) < l.length := by omega
  obtain ⟨ad, A1, c1, rfl, e0, e1, hl1, hC1⟩ := at_T37 hr 0 (by omega) (by omega)
  have IH := Lib.hid ih
  have HC := Lib.hid hC1
  have HL := Lib.hid hl1
  clear ih hr hC1 hl1
  rw [show ((0 : Int)).toNat = 0 from rfl, show 0 * 2 = 0 from rfl, Addr.add_zero'] at e0 e1
  have hlt : ad.block < w.heap.size := World.block_lt_of_cell? w _ e0
  have hb0 := Lib.hid (below_alloc (Below.refl w.heap.size w) (.cells #[.int .u8 c, .slice (some ad) l.length n] 37))
  go_enter Try.func27, Try.ntmps27
  go_wp2_with fail
  refine (IH.out A1 c1 _ (Kd.C_below HC.out hb0.out) HL.out).mono ?_
  rintro e w1 ⟨rfl, hb⟩
  have hb1 := Lib.hid (below_step hb0.out hb)
  have HK := Lib.hid (blk_below (heap_alloc_new w (.cells #[.int .u8 c, .slice (some ad) l.length n] 37)) hb)
  have p0 : w1.cell? ⟨w.heap.size, 0, none⟩ = some (.int .u8 c) := blk_cell HK.out 0
  have p1 : w1.cell? ⟨w.heap.size, 1, none⟩ = some (.slice (some ad) l.length n) := blk_cell HK.out 1
  clear hb e0 e1
  go_wp2_with fail
  go_ret3
  exact ⟨rfl, hb1.out⟩
set_option maxHeartbeats 2000000 in
set_option maxRecDepth 100000 in
theorem impl_term_measure.at_many (c : Int) (A : Option Addr) (n : Nat) (l : List S37) (w : World) (hr : Kd.C k37 w A l.length l) (hlen : 0 < l.length) (hne : ((l.length : Int) == 0) = false) (x y z : Int)
    (ih : ∀ A1 c1 w', Kd.C k37 w' A1 (rd_T37 l 0).f1.length (rd_T37 l 0).f1 → (rd_T37 l 0).f1.length ≤ c1 → Calls Try.prog 27 #[.agg #[.int .u8 (rd_T37 l 0).f0, .slice A1 (rd_T37 l 0).f1.length c1]] w' fun e w'' => e = .returned (.tuple #[.int .i64 x, .int .i64 y, .int .i64 z]) ∧ Below w'.heap.size w' w'')
    (h1 : (c == 64) = false) (h2 : (c == 45) = false) (h3 : (c == 40) = false) :
    Calls Try.prog 27 #[.agg #[.int .u8 c, .slice A l.length n]] w fun e w' => e = .returned (.tuple #[.int .i64 (wrap64 (((c - 48) % 256) * x)), .int .i64 (wrap64 (((c - 48) % 256) * y)), .int .i64 (wrap64 (((c - 48) % 256) * z))]) ∧ Below w.heap.size w w' := by
  have hu34 := Try.underlying37
  have hw8_ : ∀ n : Int, IntKind.u8.wrap n = n % 256 := IntKind.wrap_u8
  have hw64_ : ∀ n : Int, wrap64 (n % 256) = n % 256 := fun n => by unfold wrap64; omega
  have hlI : (0 : Int) < l.length := by omega
  obtain ⟨ad, A1, c1, rfl, e0, e1, hl1, hC1⟩ := at_T37 hr 0 (by omega) (by omega)
  have IH := Lib.hid ih
  have HC := Lib.hid hC1
  have HL := Lib.hid hl1
  clear ih hr hC1 hl1
  rw [show ((0 : Int)).toNat = 0 from rfl, show 0 * 2 = 0 from rfl, Addr.add_zero'] at e0 e1
  have hlt : ad.block < w.heap.size := World.block_lt_of_cell? w _ e0
  have hb0 := Lib.hid (below_alloc (Below.refl w.heap.size w) (.cells #[.int .u8 c, .slice (some ad) l.length n] 37))
  go_enter Try.func27, Try.ntmps27
  go_wp2_with fail
  refine (IH.out A1 c1 _ (Kd.C_below HC.out hb0.out) HL.out).mono ?_
  rintro e w1 ⟨rfl, hb⟩
  have hb1 := Lib.hid (below_step hb0.out hb)
  have HK := Lib.hid (blk_below (heap_alloc_new w (.cells #[.int .u8 c, .slice (some ad) l.length n] 37)) hb)
  have p0 : w1.cell? ⟨w.heap.size, 0, none⟩ = some (.int .u8 c) := blk_cell HK.out 0
  have p1 : w1.cell? ⟨w.heap.size, 1, none⟩ = some (.slice (some ad) l.length n) := blk_cell HK.out 1
  clear hb e0 e1
  go_wp2_with fail
  go_ret3
  exact ⟨rfl, hb1.out⟩
set_option maxHeartbeats 2000000 in
set_option maxRecDepth 100000 in
theorem impl_term_measure.at_both (c : Int) (A : Option Addr) (n : Nat) (l : List S37) (w : World) (hr : Kd.C k37 w A l.length l) (hlen : 1 < l.length) (hne : ((l.length : Int) == 0) = false) (x y z : Int)
    (ih : ∀ A1 c1 w', Kd.C k37 w' A1 (rd_T37 l 0).f1.length (rd_T37 l 0).f1 → (rd_T37 l 0).f1.length ≤ c1 → Calls Try.prog 27 #[.agg #[.int .u8 (rd_T37 l 0).f0, .slice A1 (rd_T37 l 0).f1.length c1]] w' fun e w'' => e = .returned (.tuple #[.int .i64 x, .int .i64 y, .int .i64 z]) ∧ Below w'.heap.size w' w'')
    (x2 y2 z2 : Int)
    (ih2 : ∀ A1 c1 w', Kd.C k37 w' A1 (rd_T37 l 1).f1.length (rd_T37 l 1).f1 → (rd_T37 l 1).f1.length ≤ c1 → Calls Try.prog 27 #[.agg #[.int .u8 (rd_T37 l 1).f0, .slice A1 (rd_T37 l 1).f1.length c1]] w' fun e w'' => e = .returned (.tuple #[.int .i64 x2, .int .i64 y2, .int .i64 z2]) ∧ Below w'.heap.size w' w'')
    (h1 : (c == 64) = false) (h2 : (c == 45) = false) (h3 : (c == 40) = true) :
    Calls Try.prog 27 #[.agg #[.int .u8 c, .slice A l.length n]] w fun e w' => e = .returned (.tuple #[.int .i64 (wrap64 (x + x2)), .int .i64 (wrap64 (y + y2)), .int .i64 (wrap64 (wrap64 (wrap64 (z + z2) + wrap64 (x * y2)) - wrap64 (y * x2)))]) ∧ Below w.heap.size w w' := by
  have hu34 := Try.underlying37
  have hlI : (0 : Int) < l.length := by omega
  obtain ⟨ad, A1, c1, rfl, e0, e1, hl1, hC1⟩ := at_T37 hr 0 (by omega) (by omega)
  obtain ⟨ad2, A2, c2, ee, g0, g1, hl2, hC2⟩ := at_T37 hr 1 (by omega) (by omega)
  cases ee
  have hlt2 := World.block_lt_of_cell? w _ g0
  have hlt3 : ad.block < w.heap.size := hlt2
  rw [show ((1 : Int)).toNat = 1 from rfl, show 1 * 2 = 2 from rfl] at g0 g1
  have hlJ : (1 : Int) < l.length := by omega
  have IH2 := Lib.hid ih2
  have HC2 := Lib.hid hC2
  have HL2 := Lib.hid hl2
  clear ih2 hC2 hl2
  have IH := Lib.hid ih
  have HC := Lib.hid hC1
  have HL := Lib.hid hl1
  clear ih hr hC1 hl1
  rw [show ((0 : Int)).toNat = 0 from rfl, show 0 * 2 = 0 from rfl, Addr.add_zero'] at e0 e1
  have hlt : ad.block < w.heap.size := World.block_lt_of_cell? w _ e0
  have hb0 := Lib.hid (below_alloc (Below.refl w.heap.size w) (.cells #[.int .u8 c, .slice (some ad) l.length n] 37))
  go_enter Try.func27, Try.ntmps27
  go_wp2_with fail
  refine (IH.out A1 c1 _ (Kd.C_below HC.out hb0.out) HL.out).mono ?_
  rintro e w1 ⟨rfl, hb⟩
  have hb1 := Lib.hid (below_step hb0.out hb)
  have HK := Lib.hid (blk_below (heap_alloc_new w (.cells #[.int .u8 c, .slice (some ad) l.length n] 37)) hb)
  have p0 : w1.cell? ⟨w.heap.size, 0, none⟩ = some (.int .u8 c) := blk_cell HK.out 0
  have p1 : w1.cell? ⟨w.heap.size, 1, none⟩ = some (.slice (some ad) l.length n) := blk_cell HK.out 1
  replace g0 := (hb1.out.cell hlt2).trans g0
  replace g1 := (hb1.out.cell (p := ⟨(ad.add 2).block, (ad.add 2).off + 1, none⟩) hlt2).trans g1
  have k0 : w1.cell? ⟨ad.block, ad.off + 2, none⟩ = some (.int .u8 (rd_T37 l 1).f0) := g0
  have k1 : w1.cell? ⟨ad.block, ad.off + 2 + 1, none⟩ = some (.slice A2 (rd_T37 l 1).f1.length c2) := g1
  clear hb e0 e1 g0 g1
  go_wp2_with fail
  refine (IH2.out A2 c2 _ (Kd.C_below HC2.out hb1.out) HL2.out).mono ?_
  rintro e w2 ⟨rfl, hb⟩
  have hb2 := Lib.hid (below_step hb1.out hb)
  clear hb k0 k1 p0 p1
  go_wp2_with fail
  go_ret3
  exact ⟨rfl, hb2.out⟩
theorem impl_term_measure.calls (k : Nat) : ∀ (a0_0 : Int) (A0_1 : Option Addr) (c0_1 : Nat) (l0_1 : List S37) (r1 : Int) (r2 : Int) (r3 : Int) (w : World) (hr0_1 : Kd.C k37 w A0_1 l0_1.length l0_1) (hc0_1 : l0_1.length ≤ c0_1) (h : impl_term_measure.f k a0_0 l0_1 = some (r1, r2, r3)),
    Calls Try.prog 27 #[.agg #[.int .u8 a0_0, .slice A0_1 l0_1.length c0_1]] w fun e w' => e = .returned (.tuple #[.int .i64 r1, .int .i64 r2, .int .i64 r3]) ∧ Below w.heap.size w w' := by
  induction k with
  | zero => intro c A n l r1 r2 r3 w hr hc h; simp [impl_term_measure.f] at h
  | succ k ih =>
    intro c A n l r1 r2 r3 w hr hc h
    simp only [impl_term_measure.f] at h
    by_cases h0 : (l.length : Int) = 0
    · rw [if_pos h0] at h
      have hl : l.length = 0 := by omega
      rw [hl]
      have : ∃ x y, some (x, y, (0 : Int)) = some (r1, r2, r3) ∧ ((c = 101 ∧ x = 1 ∧ y = 0) ∨ (c = 110 ∧ x = 0 ∧ y = 1) ∨ (c = 119 ∧ x = -1 ∧ y = 0) ∨ (c = 115 ∧ x = 0 ∧ y = -1)) := by
        split at h
        · next hh => exact ⟨1, 0, h, .inl ⟨hh, rfl, rfl⟩⟩
        · split at h
          · next hh => exact ⟨0, 1, h, .inr (.inl ⟨hh, rfl, rfl⟩)⟩
          · split at h
            · next hh => exact ⟨-1, 0, h, .inr (.inr (.inl ⟨hh, rfl, rfl⟩))⟩
            · split at h
              · next hh => exact ⟨0, -1, h, .inr (.inr (.inr ⟨hh, rfl, rfl⟩))⟩
              · simp at h
      obtain ⟨x, y, he, hx⟩ := this
      simp only [Option.some.injEq, Prod.mk.injEq] at he
      obtain ⟨rfl, rfl, rfl⟩ := he
      exact impl_term_measure.at_leaf c A n w x y hx
    · rw [if_neg h0] at h
      have hlen : 0 < l.length := by omega
      have hne : ((l.length : Int) == 0) = false := by simpa using h0
      obtain ⟨⟨x, y, z⟩, h1, h⟩ := Option.bind_eq_some_iff.mp h
      simp only at h
      have ih1 := fun A1 c1 w' (h2 : Kd.C k37 w' A1 (rd_T37 l 0).f1.length (rd_T37 l 0).f1) (h3 : (rd_T37 l 0).f1.length ≤ c1) => ih (rd_T37 l 0).f0 A1 c1 (rd_T37 l 0).f1 x y z w' h2 h3 h1
      by_cases c1 : c = 64
      · rw [if_pos c1] at h
        simp only [Option.some.injEq, Prod.mk.injEq] at h
        obtain ⟨rfl, rfl, rfl⟩ := h
        exact impl_term_measure.at_turn c A n l w hr hlen hne x y z ih1 (by simp [c1])
      · rw [if_neg c1] at h
        by_cases c2 : c = 45
        · rw [if_pos c2] at h
          simp only [Option.some.injEq, Prod.mk.injEq] at h
          obtain ⟨rfl, rfl, rfl⟩ := h
          exact impl_term_measure.at_back c A n l w hr hlen hne x y z ih1 (by simp [c1]) (by simp [c2])
        · rw [if_neg c2] at h
          by_cases c3 : c = 40
          · rw [if_pos c3] at h
            by_cases c4 : 1 < (l.length : Int)
            · rw [if_pos c4] at h
              obtain ⟨⟨x2, y2, z2⟩, h4, h⟩ := Option.bind_eq_some_iff.mp h
              simp only [Option.some.injEq, Prod.mk.injEq] at h
              obtain ⟨rfl, rfl, rfl⟩ := h
              exact impl_term_measure.at_both c A n l w hr (by omega) hne x y z ih1 x2 y2 z2 (fun A1 c1 w' h2 h3 => ih (rd_T37 l 1).f0 A1 c1 (rd_T37 l 1).f1 x2 y2 z2 w' h2 h3 h4) (by simp [c1]) (by simp [c2]) (by simp [c3])
            · rw [if_neg c4] at h
              simp at h
          · rw [if_neg c3] at h
            simp only [Option.some.injEq, Prod.mk.injEq] at h
            obtain ⟨rfl, rfl, rfl⟩ := h
            exact impl_term_measure.at_many c A n l w hr hlen hne x y z ih1 (by simp [c1]) (by simp [c2]) (by simp [c3])

/-! ### impl_TermEnd: function 23 -/
def impl_TermEnd.f (k : Nat) (a0 : ByteArray) : Option (Int × Int × Bool) := (impl_walkable.f k a0).bind fun bt179 => (if bt179.2.2 = true then ((impl_term_measure.f k bt179.1 bt179.2.1).bind fun bt185 => (some (bt185.1, bt185.2.1, true))) else (some (0, 0, false)))
theorem impl_TermEnd.mono : ∀ a0 k, LeO (impl_TermEnd.f k a0) (impl_TermEnd.f (k + 1) a0) := by
  intro a0 k
  unfold impl_TermEnd.f
  repeat' first
      | (with_reducible exact impl_term_measure.mono _ _ _)
      | (with_reducible exact impl_walkable.mono _ _)
      | (with_reducible exact LeO.refl _)
      | (with_reducible exact LeO.none _)
      | (with_reducible refine LeO.ite ?_ ?_)
      | (with_reducible refine LeO.bind ?_ (fun _ => ?_))
      | exact impl_term_measure.mono _ _ _
      | exact impl_walkable.mono _ _
      | exact LeO.none _
      | refine LeO.ite ?_ ?_
      | refine LeO.bind ?_ (fun _ => ?_)
set_option maxHeartbeats 8000000 in
set_option maxRecDepth 100000 in
theorem impl_TermEnd.calls (k : Nat) (a0 : ByteArray) (r1 : Int) (r2 : Int) (r3 : Bool) (w : World) (h : impl_TermEnd.f k a0 = some (r1, r2, r3)) :
    Calls Try.prog 23 #[.string a0] w fun e w' => e = .returned (.tuple #[.int .i64 r1, .int .i64 r2, .bool r3]) ∧ Below w.heap.size w w' := by
  have hu37 := Try.underlying37
  have HB := Aside0.mk (Below.refl w.heap.size w)
  have H : ((impl_walkable.f k a0).bind fun bt179 => (if bt179.2.2 = true then ((impl_term_measure.f k bt179.1 bt179.2.1).bind fun bt185 => (some (bt185.1, bt185.2.1, true))) else (some (0, 0, false)))) = some (r1, r2, r3) := h
  clear h
  replace H := Option.bind_eq_some_iff.mp H
  obtain ⟨⟨t179, t180, t183⟩, A20, H⟩ := H
  replace H : (if t183 = true then ((impl_term_measure.f k t179 t180).bind fun bt185 => (some (bt185.1, bt185.2.1, true))) else (some (0, 0, false))) = some (r1, r2, r3) := H
  have A2 := Aside0.mk A20
  clear A20
  by_cases c3 : t183 = true
  · subst c3
    have H1 : ((impl_term_measure.f k t179 t180).bind fun bt185 => (some (bt185.1, bt185.2.1, true))) = some (r1, r2, r3) := by rw [if_pos rfl] at H; exact H
    clear H
    have H := H1
    clear H1
    replace H := Option.bind_eq_some_iff.mp H
    obtain ⟨⟨t185, t186, t187⟩, A40, H⟩ := H
    replace H : (some (t185, t186, true)) = some (r1, r2, r3) := H
    have A4 := Aside0.mk A40
    clear A40
    simp only [Option.some.injEq, Prod.mk.injEq] at H
    obtain ⟨rfl, rfl, rfl⟩ := H
    go_enter Try.func23, Try.ntmps23
    go_wp2_with (first | ((with_reducible refine gate_callee (f := 25) rfl ?_); refine goesL_ (some 12) rfl rfl Try.func25 (by kernel_rfl) rfl #[.string a0] rfl (by (try simp only [List.map_toArray, List.map_cons, List.map_nil]); first | done | rfl | (simp only [List.length_drop, List.length_take]; rfl)) ?_; (with_reducible refine (impl_walkable.calls k a0 t179 t180 true _ A2.out).mono ?_); rintro e w5 ⟨v181, rfl, ho0, hb⟩; refine ⟨_, rfl, ?_⟩; have n0_ := Aside0.mk (Kd.R_lower ho0 (below_size (by repeat (first | (with_reducible first | exact HB.out | apply below_alloc | apply pw_below_drewN | apply below_drew1) | exact HB.out)))); have n1_ := Aside0.mk (below_step (by repeat (first | (with_reducible first | exact HB.out | apply below_alloc | apply pw_below_drewN | apply below_drew1) | exact HB.out)) hb); clear HB; have HO182 := n0_; have HB := n1_; clear n0_ n1_; (try clear hb); (try clear hb2); (try clear hk); (try clear hi); (try clear ho0)) | ((with_reducible refine gate_dst (N := 5) rfl ?_); refine box_event ?hg (N := 5) ?hd (cs := #[.int .u8 0, .slice none 0 0]) (t := 37) ?hr ?_; (case hd => rfl); (case hg => rfl); (case hr => first | (go_simp; done) | (go_simp; rfl)); intro gb184 hg w6 hbox hb; have n0_ := Aside0.mk (Kd.R_below (Kd.R_elderB (by (with_reducible repeat (first | apply Kd.R_alloc | apply Kd.R_drewN | apply Kd.R_drew)); exact HO182.out) gb184 (Nat.le_of_eq hg.symm)) hb); have n1_ := Aside0.mk (below_step (by repeat (first | (with_reducible first | exact HB.out | apply below_alloc | apply pw_below_drewN | apply below_drew1) | exact HB.out)) hb); have n2_ := Aside0.mk (hbox); have n3_ := Aside0.mk ((by rw [hg]; exact (below_size (by repeat (first | (with_reducible first | exact HB.out | apply below_alloc | apply pw_below_drewN | apply below_drew1) | exact HB.out))) : w.heap.size ≤ gb184)); have n4_ := Aside0.mk ((by rw [hg]; exact (below_size (by repeat (first | (with_reducible first | exact HB.out | apply below_alloc | apply pw_below_drewN | apply below_drew1) | exact HB.out))) : w.heap.size ≤ gb184)); clear HO182; clear HB; have HO182 := n0_; have HB := n1_; have BK184 := n2_; have GW184 := n3_; have GE184 := n4_; clear n0_ n1_ n2_ n3_ n4_; clear hb hbox hg; have hcz7_0 : w6.cell? ⟨gb184, 0, none⟩ = some (.int .u8 0) := (blk_cell BK184.out 0).trans rfl; have hcz7_1 : w6.cell? ⟨gb184, 1, none⟩ = some (.slice none 0 0) := (blk_cell BK184.out 1).trans rfl; have hfz7_0 := blk_frozen BK184.out 0; have hfz7_1 := blk_frozen BK184.out 1; obtain ⟨Ao8, co8, eo8⟩ := Kd.R_slice HO182.out; subst eo8) | ((with_reducible refine gate_callee (f := 27) rfl ?_); refine goesL_ (some 19) rfl rfl Try.func27 (by kernel_rfl) rfl #[.agg #[.int .u8 t179, .slice Ao8 t180.length co8]] rfl (by (try simp only [List.map_toArray, List.map_cons, List.map_nil]); first | done | rfl | (simp only [List.length_drop, List.length_take]; rfl)) ?_; (with_reducible refine (impl_term_measure.calls k t179 _ _ t180 t185 t186 t187 _ ?side1 ?side2 A4.out).mono ?_); (case side1 => refine (Kd.R_reads' (e := 37) (base := w.heap.size) (ok := fun k_ => (True ∧ k_ ≠ gb184)) (n := t180.length) (c := co8) ?_).2.2; exact (by (with_reducible repeat (first | apply Kd.R_alloc | apply Kd.R_drewN | apply Kd.R_drew)); exact (Kd.R_mono (Kd.R_far (p := ⟨gb184, 1, none⟩) (Kd.R_far (p := ⟨gb184, 0, none⟩) (Kd.R_mono HO182.out (fun k_ hk => (⟨hk, hk.2⟩ : _ ∧ k_ ≠ gb184))) (fun _ hk => hk.2) (.int .u8 t179)) (fun _ hk => hk.2) (.slice Ao8 t180.length co8)) (fun _ h_ => h_.1)))); (case side2 => exact (Kd.R_reads' HO182.out).2.1); rintro e w9 ⟨rfl, hb⟩; refine ⟨_, rfl, ?_⟩; have n0_ := Aside0.mk (Kd.R_below (by (with_reducible repeat (first | apply Kd.R_alloc | apply Kd.R_drewN | apply Kd.R_drew)); exact (Kd.R_mono (Kd.R_far (p := ⟨gb184, 1, none⟩) (Kd.R_far (p := ⟨gb184, 0, none⟩) (Kd.R_mono HO182.out (fun k_ hk => (⟨hk, hk.2⟩ : _ ∧ k_ ≠ gb184))) (fun _ hk => hk.2) (.int .u8 t179)) (fun _ hk => hk.2) (.slice Ao8 t180.length co8)) (fun _ h_ => h_.1))) hb); have n1_ := Aside0.mk (blk_below (g := gb184) (o := .cells #[.int .u8 t179, .slice Ao8 t180.length co8] 37 (0, 0)) (by (with_reducible repeat (first | refine blk_drewN ?_ _ | refine blk_drew ?_ | refine blk_alloc ?_ _)); refine blk_put (cs := #[.int .u8 t179, .slice none 0 0]) ?_ 1 _ rfl; (with_reducible repeat (first | refine blk_drewN ?_ _ | refine blk_drew ?_ | refine blk_alloc ?_ _)); refine blk_put (cs := #[.int .u8 0, .slice none 0 0]) ?_ 0 _ rfl; (with_reducible repeat (first | refine blk_drewN ?_ _ | refine blk_drew ?_ | refine blk_alloc ?_ _)); exact BK184.out) hb); have n2_ := Aside0.mk (below_step (by repeat (first | (with_reducible first | exact HB.out | apply below_alloc | apply pw_below_drewN | apply below_drew1 | refine below_set ?_ GE184.out) | exact HB.out)) hb); clear HO182; clear BK184; clear HB; have HO182 := n0_; have BK184 := n1_; have HB := n2_; clear n0_ n1_ n2_; (try clear hb); (try clear hb2); (try clear hk); (try clear hi)))
    go_ret3
    exact ⟨by first | rfl | (simp [errW_none, errW_some] <;> rfl) | (simp [*, errW_none, errW_some] <;> rfl), by repeat (first | (with_reducible first | exact HB.out | apply below_alloc | apply pw_below_drewN | apply below_drew1 | refine below_set ?_ GE184.out) | exact HB.out)⟩
  · replace c3 := Bool.eq_false_iff.mpr c3
    subst c3
    have H1 : (some (0, 0, false)) = some (r1, r2, r3) := by rw [if_neg (show ¬ (false = true) by decide)] at H; exact H
    clear H
    have H := H1
    clear H1
    simp only [Option.some.injEq, Prod.mk.injEq] at H
    obtain ⟨rfl, rfl, rfl⟩ := H
    go_enter Try.func23, Try.ntmps23
    go_wp2_with (first | ((with_reducible refine gate_callee (f := 25) rfl ?_); refine goesL_ (some 12) rfl rfl Try.func25 (by kernel_rfl) rfl #[.string a0] rfl (by (try simp only [List.map_toArray, List.map_cons, List.map_nil]); first | done | rfl | (simp only [List.length_drop, List.length_take]; rfl)) ?_; (with_reducible refine (impl_walkable.calls k a0 t179 t180 false _ A2.out).mono ?_); rintro e w10 ⟨v181, rfl, ho0, hb⟩; refine ⟨_, rfl, ?_⟩; have n0_ := Aside0.mk (Kd.R_lower ho0 (below_size (by repeat (first | (with_reducible first | exact HB.out | apply below_alloc | apply pw_below_drewN | apply below_drew1) | exact HB.out)))); have n1_ := Aside0.mk (below_step (by repeat (first | (with_reducible first | exact HB.out | apply below_alloc | apply pw_below_drewN | apply below_drew1) | exact HB.out)) hb); clear HB; have HO182 := n0_; have HB := n1_; clear n0_ n1_; (try clear hb); (try clear hb2); (try clear hk); (try clear hi); (try clear ho0)) | ((with_reducible refine gate_dst (N := 5) rfl ?_); refine box_event ?hg (N := 5) ?hd (cs := #[.int .u8 0, .slice none 0 0]) (t := 37) ?hr ?_; (case hd => rfl); (case hg => rfl); (case hr => first | (go_simp; done) | (go_simp; rfl)); intro gb184 hg w11 hbox hb; have n0_ := Aside0.mk (Kd.R_below (Kd.R_elderB (by (with_reducible repeat (first | apply Kd.R_alloc | apply Kd.R_drewN | apply Kd.R_drew)); exact HO182.out) gb184 (Nat.le_of_eq hg.symm)) hb); have n1_ := Aside0.mk (below_step (by repeat (first | (with_reducible first | exact HB.out | apply below_alloc | apply pw_below_drewN | apply below_drew1) | exact HB.out)) hb); have n2_ := Aside0.mk (hbox); have n3_ := Aside0.mk ((by rw [hg]; exact (below_size (by repeat (first | (with_reducible first | exact HB.out | apply below_alloc | apply pw_below_drewN | apply below_drew1) | exact HB.out))) : w.heap.size ≤ gb184)); have n4_ := Aside0.mk ((by rw [hg]; exact (below_size (by repeat (first | (with_reducible first | exact HB.out | apply below_alloc | apply pw_below_drewN | apply below_drew1) | exact HB.out))) : w.heap.size ≤ gb184)); clear HO182; clear HB; have HO182 := n0_; have HB := n1_; have BK184 := n2_; have GW184 := n3_; have GE184 := n4_; clear n0_ n1_ n2_ n3_ n4_; clear hb hbox hg; have hcz12_0 : w11.cell? ⟨gb184, 0, none⟩ = some (.int .u8 0) := (blk_cell BK184.out 0).trans rfl; have hcz12_1 : w11.cell? ⟨gb184, 1, none⟩ = some (.slice none 0 0) := (blk_cell BK184.out 1).trans rfl; have hfz12_0 := blk_frozen BK184.out 0; have hfz12_1 := blk_frozen BK184.out 1; obtain ⟨Ao13, co13, eo13⟩ := Kd.R_slice HO182.out; subst eo13))
    go_ret3
    exact ⟨by first | rfl | (simp [errW_none, errW_some] <;> rfl) | (simp [*, errW_none, errW_some] <;> rfl), by repeat (first | (with_reducible first | exact HB.out | apply below_alloc | apply pw_below_drewN | apply below_drew1 | refine below_set ?_ GE184.out) | exact HB.out)⟩

/-! ### impl_TermCloses: function 10 -/
def impl_TermCloses.f (k : Nat) (a0 : ByteArray) : Option (Bool) := (impl_TermEnd.f k a0).bind fun bt188 => (if bt188.2.2 = true then (if bt188.1 = 0 then (some (bt188.2.1 == 0)) else (some false)) else (some false))
theorem impl_TermCloses.mono : ∀ a0 k, LeO (impl_TermCloses.f k a0) (impl_TermCloses.f (k + 1) a0) := by
  intro a0 k
  unfold impl_TermCloses.f
  repeat' first
      | (with_reducible exact impl_TermEnd.mono _ _)
      | (with_reducible exact LeO.refl _)
      | (with_reducible exact LeO.none _)
      | (with_reducible refine LeO.ite ?_ ?_)
      | (with_reducible refine LeO.bind ?_ (fun _ => ?_))
      | exact impl_TermEnd.mono _ _
      | exact LeO.none _
      | refine LeO.ite ?_ ?_
      | refine LeO.bind ?_ (fun _ => ?_)
set_option maxHeartbeats 8000000 in
set_option maxRecDepth 100000 in
theorem impl_TermCloses.calls (k : Nat) (a0 : ByteArray) (r : Bool) (w : World) (h : impl_TermCloses.f k a0 = some r) :
    Calls Try.prog 10 #[.string a0] w fun e w' => e = .returned (.bool r) ∧ Below w.heap.size w w' := by
  have HB := Aside0.mk (Below.refl w.heap.size w)
  have H : ((impl_TermEnd.f k a0).bind fun bt188 => (if bt188.2.2 = true then (if bt188.1 = 0 then (some (bt188.2.1 == 0)) else (some false)) else (some false))) = some r := h
  clear h
  replace H := Option.bind_eq_some_iff.mp H
  obtain ⟨⟨t188, t189, t190⟩, A20, H⟩ := H
  replace H : (if t190 = true then (if t188 = 0 then (some (t189 == 0)) else (some false)) else (some false)) = some r := H
  have A2 := Aside0.mk A20
  clear A20
  by_cases c3 : t190 = true
  · subst c3
    have H1 : (if t188 = 0 then (some (t189 == 0)) else (some false)) = some r := by rw [if_pos rfl] at H; exact H
    clear H
    have H := H1
    clear H1
    by_cases c4 : t188 = 0
    · rw [if_pos c4] at H
      have c4b0 : (t188 == 0) = true := beq_iff_eq.mpr c4
      have c4b1 : (t188 != 0) = false := bne_eq_false_iff_eq.mpr c4
      clear c4
      obtain rfl := Option.some.inj H
      go_enter Try.func10, Try.ntmps10
      go_wp2_with (first | ((with_reducible refine gate_callee (f := 23) rfl ?_); refine goesL_ (some 8) rfl rfl Try.func23 (by kernel_rfl) rfl #[.string a0] rfl (by (try simp only [List.map_toArray, List.map_cons, List.map_nil]); first | done | rfl | (simp only [List.length_drop, List.length_take]; rfl)) ?_; (with_reducible refine (impl_TermEnd.calls k a0 t188 t189 true _ A2.out).mono ?_); rintro e w5 ⟨rfl, hb⟩; refine ⟨_, rfl, ?_⟩; have n0_ := Aside0.mk (below_step (by repeat (first | (with_reducible first | exact HB.out | apply below_alloc | apply pw_below_drewN | apply below_drew1) | exact HB.out)) hb); clear HB; have HB := n0_; clear n0_; (try clear hb); (try clear hb2); (try clear hk); (try clear hi)))
      go_ret
      exact ⟨by first | rfl | (simp [errW_none, errW_some] <;> rfl) | (simp [*, errW_none, errW_some] <;> rfl), by repeat (first | (with_reducible first | exact HB.out | apply below_alloc | apply pw_below_drewN | apply below_drew1) | exact HB.out)⟩
    · rw [if_neg c4] at H
      have c4b0 : (t188 == 0) = false := beq_eq_false_iff_ne.mpr c4
      have c4b1 : (t188 != 0) = true := bne_iff_ne.mpr c4
      obtain rfl := Option.some.inj H
      go_enter Try.func10, Try.ntmps10
      go_wp2_with (first | ((with_reducible refine gate_callee (f := 23) rfl ?_); refine goesL_ (some 8) rfl rfl Try.func23 (by kernel_rfl) rfl #[.string a0] rfl (by (try simp only [List.map_toArray, List.map_cons, List.map_nil]); first | done | rfl | (simp only [List.length_drop, List.length_take]; rfl)) ?_; (with_reducible refine (impl_TermEnd.calls k a0 t188 t189 true _ A2.out).mono ?_); rintro e w6 ⟨rfl, hb⟩; refine ⟨_, rfl, ?_⟩; have n0_ := Aside0.mk (below_step (by repeat (first | (with_reducible first | exact HB.out | apply below_alloc | apply pw_below_drewN | apply below_drew1) | exact HB.out)) hb); clear HB; have HB := n0_; clear n0_; (try clear hb); (try clear hb2); (try clear hk); (try clear hi)))
      go_ret
      exact ⟨by first | rfl | (simp [errW_none, errW_some] <;> rfl) | (simp [*, errW_none, errW_some] <;> rfl), by repeat (first | (with_reducible first | exact HB.out | apply below_alloc | apply pw_below_drewN | apply below_drew1) | exact HB.out)⟩
  · replace c3 := Bool.eq_false_iff.mpr c3
    subst c3
    have H1 : (some false) = some r := by rw [if_neg (show ¬ (false = true) by decide)] at H; exact H
    clear H
    have H := H1
    clear H1
    obtain rfl := Option.some.inj H
    go_enter Try.func10, Try.ntmps10
    go_wp2_with (first | ((with_reducible refine gate_callee (f := 23) rfl ?_); refine goesL_ (some 8) rfl rfl Try.func23 (by kernel_rfl) rfl #[.string a0] rfl (by (try simp only [List.map_toArray, List.map_cons, List.map_nil]); first | done | rfl | (simp only [List.length_drop, List.length_take]; rfl)) ?_; (with_reducible refine (impl_TermEnd.calls k a0 t188 t189 false _ A2.out).mono ?_); rintro e w7 ⟨rfl, hb⟩; refine ⟨_, rfl, ?_⟩; have n0_ := Aside0.mk (below_step (by repeat (first | (with_reducible first | exact HB.out | apply below_alloc | apply pw_below_drewN | apply below_drew1) | exact HB.out)) hb); clear HB; have HB := n0_; clear n0_; (try clear hb); (try clear hb2); (try clear hk); (try clear hi)))
    go_ret
    exact ⟨by first | rfl | (simp [errW_none, errW_some] <;> rfl) | (simp [*, errW_none, errW_some] <;> rfl), by repeat (first | (with_reducible first | exact HB.out | apply below_alloc | apply pw_below_drewN | apply below_drew1) | exact HB.out)⟩

/-! ### laws_FnExactTermCloses: function 3 -/
def laws_FnExactTermCloses.f (k : Nat) (a0 : ByteArray) : Option (Bool) := if (a0.size : Int) > 1048576 then (some true) else ((spec_TermCloses.f k a0).bind fun t191 => ((impl_TermCloses.f k a0).bind fun t192 => (if (t192 != t191) = true then (some false) else (some true))))
theorem laws_FnExactTermCloses.mono : ∀ a0 k, LeO (laws_FnExactTermCloses.f k a0) (laws_FnExactTermCloses.f (k + 1) a0) := by
  intro a0 k
  unfold laws_FnExactTermCloses.f
  repeat' first
      | (with_reducible exact impl_TermCloses.mono _ _)
      | (with_reducible exact spec_TermCloses.mono _ _)
      | (with_reducible exact LeO.refl _)
      | (with_reducible exact LeO.none _)
      | (with_reducible refine LeO.ite ?_ ?_)
      | (with_reducible refine LeO.bind ?_ (fun _ => ?_))
      | exact impl_TermCloses.mono _ _
      | exact spec_TermCloses.mono _ _
      | exact LeO.none _
      | refine LeO.ite ?_ ?_
      | refine LeO.bind ?_ (fun _ => ?_)
set_option maxHeartbeats 8000000 in
set_option maxRecDepth 100000 in
theorem laws_FnExactTermCloses.calls (k : Nat) (a0 : ByteArray) (r : Bool) (w : World) (h : laws_FnExactTermCloses.f k a0 = some r) :
    Calls Try.prog 3 #[.string a0] w fun e w' => e = .returned (.bool r) ∧ Below w.heap.size w w' := by
  have HB := Aside0.mk (Below.refl w.heap.size w)
  have H : (if (a0.size : Int) > 1048576 then (some true) else ((spec_TermCloses.f k a0).bind fun t191 => ((impl_TermCloses.f k a0).bind fun t192 => (if (t192 != t191) = true then (some false) else (some true))))) = some r := h
  clear h
  by_cases c2 : (a0.size : Int) > 1048576
  · rw [if_pos c2] at H
    have c2b0 : decide (1048576 < (a0.size : Int)) = true := decide_eq_true c2
    have c2b1 : decide (1048576 < a0.size) = true := decide_eq_true (by omega)
    clear c2
    obtain rfl := Option.some.inj H
    go_enter Try.func3, Try.ntmps3
    go_wp2
    go_ret
    exact ⟨by first | rfl | (simp [errW_none, errW_some] <;> rfl) | (simp [*, errW_none, errW_some] <;> rfl), by repeat (first | (with_reducible first | exact HB.out | apply below_alloc | apply pw_below_drewN | apply below_drew1) | exact HB.out)⟩
  · rw [if_neg c2] at H
    have c2b0 : decide (1048576 < (a0.size : Int)) = false := decide_eq_false c2
    have c2b1 : decide (1048576 < a0.size) = false := decide_eq_false (by omega)
    clear c2
    replace H := Option.bind_eq_some_iff.mp H
    obtain ⟨t191, A30, H⟩ := H
    replace H : ((impl_TermCloses.f k a0).bind fun t192 => (if (t192 != t191) = true then (some false) else (some true))) = some r := H
    have A3 := Aside0.mk A30
    clear A30
    replace H := Option.bind_eq_some_iff.mp H
    obtain ⟨t192, A40, H⟩ := H
    replace H : (if (t192 != t191) = true then (some false) else (some true)) = some r := H
    have A4 := Aside0.mk A40
    clear A40
    by_cases c5 : (t192 != t191) = true
    · rw [if_pos c5] at H
      have c5b0 : (t192 != t191) = true := c5
      (try (have c5b1 : decide (t192 = t191) = false := by simpa using c5))
      (try (have c5b2 : (t192 == t191) = false := by simpa using c5))
      (try (have c5b3 : ¬ (t192 = t191) := by simpa using c5))
      clear c5
      obtain rfl := Option.some.inj H
      go_enter Try.func3, Try.ntmps3
      go_wp2_with (first | ((with_reducible refine gate_callee (f := 9) rfl ?_); refine goesL_ (some 9) rfl rfl Try.func9 (by kernel_rfl) rfl #[.string a0] rfl (by (try simp only [List.map_toArray, List.map_cons, List.map_nil]); first | done | rfl | (simp only [List.length_drop, List.length_take]; rfl)) ?_; (with_reducible refine (spec_TermCloses.calls k a0 t191 _ A3.out).mono ?_); rintro e w6 ⟨rfl, hb⟩; refine ⟨_, rfl, ?_⟩; have n0_ := Aside0.mk (below_step (by repeat (first | (with_reducible first | exact HB.out | apply below_alloc | apply pw_below_drewN | apply below_drew1) | exact HB.out)) hb); clear HB; have HB := n0_; clear n0_; (try clear hb); (try clear hb2); (try clear hk); (try clear hi)) | ((with_reducible refine gate_callee (f := 10) rfl ?_); refine goesL_ (some 11) rfl rfl Try.func10 (by kernel_rfl) rfl #[.string a0] rfl (by (try simp only [List.map_toArray, List.map_cons, List.map_nil]); first | done | rfl | (simp only [List.length_drop, List.length_take]; rfl)) ?_; (with_reducible refine (impl_TermCloses.calls k a0 t192 _ A4.out).mono ?_); rintro e w7 ⟨rfl, hb⟩; refine ⟨_, rfl, ?_⟩; have n0_ := Aside0.mk (below_step (by repeat (first | (with_reducible first | exact HB.out | apply below_alloc | apply pw_below_drewN | apply below_drew1) | exact HB.out)) hb); clear HB; have HB := n0_; clear n0_; (try clear hb); (try clear hb2); (try clear hk); (try clear hi)))
      go_ret
      exact ⟨by first | rfl | (simp [errW_none, errW_some] <;> rfl) | (simp [*, errW_none, errW_some] <;> rfl), by repeat (first | (with_reducible first | exact HB.out | apply below_alloc | apply pw_below_drewN | apply below_drew1) | exact HB.out)⟩
    · rw [if_neg c5] at H
      have c5b0 : (t192 != t191) = false := by simpa using c5
      (try (have c5b1 : decide (t192 = t191) = true := by simpa using c5))
      (try (have c5b2 : (t192 == t191) = true := by simpa using c5))
      clear c5
      obtain rfl := Option.some.inj H
      go_enter Try.func3, Try.ntmps3
      go_wp2_with (first | ((with_reducible refine gate_callee (f := 9) rfl ?_); refine goesL_ (some 9) rfl rfl Try.func9 (by kernel_rfl) rfl #[.string a0] rfl (by (try simp only [List.map_toArray, List.map_cons, List.map_nil]); first | done | rfl | (simp only [List.length_drop, List.length_take]; rfl)) ?_; (with_reducible refine (spec_TermCloses.calls k a0 t191 _ A3.out).mono ?_); rintro e w8 ⟨rfl, hb⟩; refine ⟨_, rfl, ?_⟩; have n0_ := Aside0.mk (below_step (by repeat (first | (with_reducible first | exact HB.out | apply below_alloc | apply pw_below_drewN | apply below_drew1) | exact HB.out)) hb); clear HB; have HB := n0_; clear n0_; (try clear hb); (try clear hb2); (try clear hk); (try clear hi)) | ((with_reducible refine gate_callee (f := 10) rfl ?_); refine goesL_ (some 11) rfl rfl Try.func10 (by kernel_rfl) rfl #[.string a0] rfl (by (try simp only [List.map_toArray, List.map_cons, List.map_nil]); first | done | rfl | (simp only [List.length_drop, List.length_take]; rfl)) ?_; (with_reducible refine (impl_TermCloses.calls k a0 t192 _ A4.out).mono ?_); rintro e w9 ⟨rfl, hb⟩; refine ⟨_, rfl, ?_⟩; have n0_ := Aside0.mk (below_step (by repeat (first | (with_reducible first | exact HB.out | apply below_alloc | apply pw_below_drewN | apply below_drew1) | exact HB.out)) hb); clear HB; have HB := n0_; clear n0_; (try clear hb); (try clear hb2); (try clear hk); (try clear hi)))
      go_ret
      exact ⟨by first | rfl | (simp [errW_none, errW_some] <;> rfl) | (simp [*, errW_none, errW_some] <;> rfl), by repeat (first | (with_reducible first | exact HB.out | apply below_alloc | apply pw_below_drewN | apply below_drew1) | exact HB.out)⟩

/-- THE ONE PURE STATEMENT of laws_FnExactTermCloses: yours. -/
def laws_FnExactTermCloses.Pure : Prop := ∀ (a0 : ByteArray), a0.size ≤ 140737488351232 → ∃ k, laws_FnExactTermCloses.f k a0 = some true
theorem laws_FnExactTermCloses.walk (P : laws_FnExactTermCloses.Pure) (a0 : ByteArray) (w : World) (w0 : a0.size ≤ 140737488351232) :
    Calls Try.prog 3 #[.string a0] w fun e w' => e = .returned (.bool true) ∧ Below w.heap.size w w' := by
  obtain ⟨k, h⟩ := P a0 w0
  refine (laws_FnExactTermCloses.calls k a0 true w h).mono ?_
  rintro e w' ⟨rfl, hd⟩
  exact ⟨rfl, hd⟩

end Go.Proofs.Ytdjbnbkblhfjiaa.PFnExactTermCloses
