/- Written by a program of this claim out of the translation: plain Lean functions and their contracts; what is proved: each Go function of this text comes to what its Lean function says. -/
import Derived.Test.YtopkmliapnalkaaPFnExactTermTurnsx0
import Derived.Test.YtopkmliapnalkaaPFnExactTermTurnsx5
import Derived.Test.YtopkmliapnalkaaPFnExactTermTurnsx6
import Derived.Test.YtopkmliapnalkaaPFnExactTermTurnsx8
namespace Go.Proofs.Ytopkmliapnalkaa.PFnExactTermTurns
open Go.RowKit Go.Proofs.YtopkmliapnalkaaW.PrintWords Go.Proofs.YtopkmliapnalkaaW.PrintLast Go.Proofs.YtopkmliapnalkaaW.PrintMore
attribute [local go_sem] max2_int min2_int max_two min_two max_three min_three max_four min_four   -- for this text's walks alone
set_option linter.unusedVariables false
set_option linter.unusedSimpArgs false

/-! ### impl_TermTurns: function 6, by hand -/
def impl_TermTurns.l0 : Nat → ByteArray → Int → Int → Int → Int → Int → Option (Int × Int × Int × Bool)
  | 0, _, _, _, _, _, _ => none
  | k + 1, s, n0, n1, n2, n3, i => if i < (s.size : Int) then (if 0 ≤ i then (if 0 ≤ wrap64 (i - 1) then (if wrap64 (i - 1) < (s.size : Int) then ((impl_wayOf.f (bt s i)).bind fun x => ((impl_wayOf.f (bt s (wrap64 (i - 1)))).bind fun y =>
      if Int.tmod (wrap64 (wrap64 (x - y) + 4)) 4 = 0 then impl_TermTurns.l0 k s (wrap64 (n0 + 1)) n1 n2 n3 (wrap64 (i + 1)) else
      if Int.tmod (wrap64 (wrap64 (x - y) + 4)) 4 = 1 then impl_TermTurns.l0 k s n0 (wrap64 (n1 + 1)) n2 n3 (wrap64 (i + 1)) else
      if Int.tmod (wrap64 (wrap64 (x - y) + 4)) 4 = 2 then impl_TermTurns.l0 k s n0 n1 (wrap64 (n2 + 1)) n3 (wrap64 (i + 1)) else
      if Int.tmod (wrap64 (wrap64 (x - y) + 4)) 4 = 3 then impl_TermTurns.l0 k s n0 n1 n2 (wrap64 (n3 + 1)) (wrap64 (i + 1)) else none)) else none) else none) else none) else some (n1, n3, n2, true)
def impl_TermTurns.f (k : Nat) (s : ByteArray) : Option (Int × Int × Int × Bool) := (impl_TermWalk.f k s).bind fun t => if t.2 = true then impl_TermTurns.l0 k t.1 0 0 0 0 1 else some (0, 0, 0, false)
theorem impl_TermTurns.mono_l : ∀ k, (∀ y0 y1 y2 y3 y4 y5, LeO (impl_TermTurns.l0 k y0 y1 y2 y3 y4 y5) (impl_TermTurns.l0 (k + 1) y0 y1 y2 y3 y4 y5))
  | 0 => fun _ _ _ _ _ _ r h => by simp [impl_TermTurns.l0] at h
  | k + 1 => by
    have ih0 := impl_TermTurns.mono_l k
    intro y0 y1 y2 y3 y4 y5
    unfold impl_TermTurns.l0
    repeat' first
      | (with_reducible exact ih0 _ _ _ _ _ _)
      | (with_reducible exact LeO.refl _)
      | (with_reducible refine LeO.ite ?_ ?_)
      | (with_reducible refine LeO.bind ?_ (fun _ => ?_))
theorem impl_TermTurns.mono : ∀ a0 k, LeO (impl_TermTurns.f k a0) (impl_TermTurns.f (k + 1) a0) := fun _ k => LeO.bind (impl_TermWalk.mono _ _) (fun _ => LeO.ite (impl_TermTurns.mono_l k _ _ _ _ _ _) (LeO.refl _))
theorem impl_TermTurns.heap_new {W : World} {o : Obj} {g : Nat} (h : g = W.heap.size) : (W.alloc o).heap[g]? = some o := by
  subst h
  exact heap_alloc_new W o
set_option maxHeartbeats 8000000 in
set_option maxRecDepth 100000 in
theorem impl_TermTurns.calls (k : Nat) (a0 : ByteArray) (r1 : Int) (r2 : Int) (r3 : Int) (r4 : Bool) (w : World) (h : impl_TermTurns.f k a0 = some (r1, r2, r3, r4)) :
    Calls Try.prog 6 #[.string a0] w fun e w' => e = .returned (.tuple #[.int .i64 r1, .int .i64 r2, .int .i64 r3, .bool r4]) ∧ Below w.heap.size w w' := by
  obtain ⟨⟨s, ok⟩, h1, h⟩ := Option.bind_eq_some_iff.mp h
  have A1 := Aside0.mk h1
  clear h1
  simp only at h
  by_cases c1 : ok = true
  · subst c1
    rw [if_pos rfl] at h
    have H' := Aside0.mk h
    clear h
    go_enter Try.func6, Try.ntmps6
    go_wp2_with (first
      | (go_at_call 11; refine (impl_TermWalk.calls k a0 s true _ A1.out).mono ?_; rintro e w1 ⟨rfl, hb1⟩; have HB := Aside0.mk hb1; clear hb1))
    have HW := Aside0.mk (show w.heap.size ≤ w1.heap.size from HB.out.size)
    go_loopg [9] k (fun kq v9 w' => ∃ (n0 n1 n2 n3 i : Int), v9 = .int .i64 i ∧ Aside0 (impl_TermTurns.l0 kq s n0 n1 n2 n3 i = some (r1, r2, r3, r4)) ∧ Aside0 (kq ≤ k) ∧ Aside0 (w'.heap[w1.heap.size]? = some (.cells #[.int .i64 n0, .int .i64 n1, .int .i64 n2, .int .i64 n3] 33 (0, 0))) ∧ Aside0 (Below w.heap.size w w'))
    case atStart => exact ⟨0, 0, 0, 0, 1, rfl, H', ⟨Nat.le_refl _⟩, ⟨impl_TermTurns.heap_new rfl⟩, ⟨below_alloc HB.out _⟩⟩
    case round =>
      clear H'
      obtain ⟨n0, n1, n2, n3, i, rfl, HA, HK, HM, HB2⟩ := hrel
      cases gk with
      | zero => exact absurd HA.out (by simp [impl_TermTurns.l0])
      | succ k1 =>
        have H := HA.out
        clear HA
        simp only [impl_TermTurns.l0] at H
        have c0_ : _ = some _ := blk_cell HM.out 0
        have c1_ : _ = some _ := blk_cell HM.out 1
        have c2_ : _ = some _ := blk_cell HM.out 2
        have c3_ : _ = some _ := blk_cell HM.out 3
        have f0_ := blk_frozen HM.out 0
        have f1_ := blk_frozen HM.out 1
        have f2_ := blk_frozen HM.out 2
        have f3_ := blk_frozen HM.out 3
        by_cases e1 : i < (s.size : Int)
        · rw [if_pos e1] at H
          have e1b : decide (i < (s.size : Int)) = true := decide_eq_true e1
          by_cases e2 : 0 ≤ i
          · rw [if_pos e2] at H
            obtain ⟨im, him⟩ : ∃ q : Int, wrap64 (i - 1) = q := ⟨_, rfl⟩
            rw [him] at H
            have himw : IntKind.i64.wrap (i - 1) = im := (i64_w _).trans him
            by_cases e3 : 0 ≤ im
            · rw [if_pos e3] at H
              by_cases e4 : im < (s.size : Int)
              · rw [if_pos e4] at H
                obtain ⟨x, hx, H⟩ := Option.bind_eq_some_iff.mp H
                obtain ⟨y, hy, H⟩ := Option.bind_eq_some_iff.mp H
                have HX := Aside0.mk hx
                have HY := Aside0.mk hy
                clear hx hy
                obtain ⟨d1, hd1⟩ : ∃ q : Int, wrap64 (x - y) = q := ⟨_, rfl⟩
                rw [hd1] at H
                obtain ⟨d2, hd2⟩ : ∃ q : Int, wrap64 (d1 + 4) = q := ⟨_, rfl⟩
                rw [hd2] at H
                have hd1w : IntKind.i64.wrap (x - y) = d1 := (i64_w _).trans hd1
                have hd2w : IntKind.i64.wrap (d1 + 4) = d2 := (i64_w _).trans hd2
                have p1 := eq_true e2
                have p2 := eq_true e1
                have p3 := eq_true e3
                have p4 := eq_true e4
                have hb1 := bt_at s i
                have hb2 := bt_at s im
                clear e1 e2 e3 e4
                by_cases hj : Int.tmod d2 4 = 0
                · rw [if_pos hj] at H
                  obtain ⟨q, hq⟩ : ∃ q : Int, wrap64 (n0 + 1) = q := ⟨_, rfl⟩
                  rw [hq] at H
                  have hqw : IntKind.i64.wrap (n0 + 1) = q := (i64_w _).trans hq
                  have H' := Aside0.mk H
                  clear H
                  have hjw : IntKind.i64.wrap (Int.tmod d2 4) = 0 := by rw [hj]; decide
                  go_wp2
                  go_region_with (first
                    | (go_at_call 12; first
                      | (refine (impl_wayOf.calls (bt s i) x _ HX.out).mono ?_; rintro e w2 ⟨rfl, ⟨⟨nd, rfl⟩⟩⟩)
                      | (refine (impl_wayOf.calls (bt s im) y _ HY.out).mono ?_; rintro e w2 ⟨rfl, ⟨⟨nd, rfl⟩⟩⟩)))
                  all_goals go_wp2
                  all_goals go_roundg k1
                  case measure => omega
                  case rel => exact ⟨q, n1, n2, n3, wrap64 (i + 1), (by first | rfl | (simp; done) | (simp [*]; done)), H', ⟨by have := HK.out; omega⟩, ⟨blk_put (blk_drewN HM.out _) 0 _ rfl⟩, ⟨(pw_below_drewN HB2.out _).setCell HW.out _⟩⟩
                  case measure => omega
                  case rel => exact ⟨q, n1, n2, n3, wrap64 (i + 1), (by first | rfl | (simp; done) | (simp [*]; done)), H', ⟨by have := HK.out; omega⟩, ⟨blk_put (blk_drewN HM.out _) 0 _ rfl⟩, ⟨(pw_below_drewN HB2.out _).setCell HW.out _⟩⟩
                  case measure => omega
                  case rel => exact ⟨q, n1, n2, n3, wrap64 (i + 1), (by first | rfl | (simp; done) | (simp [*]; done)), H', ⟨by have := HK.out; omega⟩, ⟨blk_put (blk_drewN HM.out _) 0 _ rfl⟩, ⟨(pw_below_drewN HB2.out _).setCell HW.out _⟩⟩
                · rw [if_neg hj] at H
                  clear hj
                  by_cases hj : Int.tmod d2 4 = 1
                  · rw [if_pos hj] at H
                    obtain ⟨q, hq⟩ : ∃ q : Int, wrap64 (n1 + 1) = q := ⟨_, rfl⟩
                    rw [hq] at H
                    have hqw : IntKind.i64.wrap (n1 + 1) = q := (i64_w _).trans hq
                    have H' := Aside0.mk H
                    clear H
                    have hjw : IntKind.i64.wrap (Int.tmod d2 4) = 1 := by rw [hj]; decide
                    go_wp2
                    go_region_with (first
                      | (go_at_call 12; first
                        | (refine (impl_wayOf.calls (bt s i) x _ HX.out).mono ?_; rintro e w2 ⟨rfl, ⟨⟨nd, rfl⟩⟩⟩)
                        | (refine (impl_wayOf.calls (bt s im) y _ HY.out).mono ?_; rintro e w2 ⟨rfl, ⟨⟨nd, rfl⟩⟩⟩)))
                    all_goals go_wp2
                    all_goals go_roundg k1
                    case measure => omega
                    case rel => exact ⟨n0, q, n2, n3, wrap64 (i + 1), (by first | rfl | (simp; done) | (simp [*]; done)), H', ⟨by have := HK.out; omega⟩, ⟨blk_put (blk_drewN HM.out _) 1 _ rfl⟩, ⟨(pw_below_drewN HB2.out _).setCell HW.out _⟩⟩
                    case measure => omega
                    case rel => exact ⟨n0, q, n2, n3, wrap64 (i + 1), (by first | rfl | (simp; done) | (simp [*]; done)), H', ⟨by have := HK.out; omega⟩, ⟨blk_put (blk_drewN HM.out _) 1 _ rfl⟩, ⟨(pw_below_drewN HB2.out _).setCell HW.out _⟩⟩
                    case measure => omega
                    case rel => exact ⟨n0, q, n2, n3, wrap64 (i + 1), (by first | rfl | (simp; done) | (simp [*]; done)), H', ⟨by have := HK.out; omega⟩, ⟨blk_put (blk_drewN HM.out _) 1 _ rfl⟩, ⟨(pw_below_drewN HB2.out _).setCell HW.out _⟩⟩
                  · rw [if_neg hj] at H
                    clear hj
                    by_cases hj : Int.tmod d2 4 = 2
                    · rw [if_pos hj] at H
                      obtain ⟨q, hq⟩ : ∃ q : Int, wrap64 (n2 + 1) = q := ⟨_, rfl⟩
                      rw [hq] at H
                      have hqw : IntKind.i64.wrap (n2 + 1) = q := (i64_w _).trans hq
                      have H' := Aside0.mk H
                      clear H
                      have hjw : IntKind.i64.wrap (Int.tmod d2 4) = 2 := by rw [hj]; decide
                      go_wp2
                      go_region_with (first
                        | (go_at_call 12; first
                          | (refine (impl_wayOf.calls (bt s i) x _ HX.out).mono ?_; rintro e w2 ⟨rfl, ⟨⟨nd, rfl⟩⟩⟩)
                          | (refine (impl_wayOf.calls (bt s im) y _ HY.out).mono ?_; rintro e w2 ⟨rfl, ⟨⟨nd, rfl⟩⟩⟩)))
                      all_goals go_wp2
                      all_goals go_roundg k1
                      case measure => omega
                      case rel => exact ⟨n0, n1, q, n3, wrap64 (i + 1), (by first | rfl | (simp; done) | (simp [*]; done)), H', ⟨by have := HK.out; omega⟩, ⟨blk_put (blk_drewN HM.out _) 2 _ rfl⟩, ⟨(pw_below_drewN HB2.out _).setCell HW.out _⟩⟩
                      case measure => omega
                      case rel => exact ⟨n0, n1, q, n3, wrap64 (i + 1), (by first | rfl | (simp; done) | (simp [*]; done)), H', ⟨by have := HK.out; omega⟩, ⟨blk_put (blk_drewN HM.out _) 2 _ rfl⟩, ⟨(pw_below_drewN HB2.out _).setCell HW.out _⟩⟩
                      case measure => omega
                      case rel => exact ⟨n0, n1, q, n3, wrap64 (i + 1), (by first | rfl | (simp; done) | (simp [*]; done)), H', ⟨by have := HK.out; omega⟩, ⟨blk_put (blk_drewN HM.out _) 2 _ rfl⟩, ⟨(pw_below_drewN HB2.out _).setCell HW.out _⟩⟩
                    · rw [if_neg hj] at H
                      clear hj
                      by_cases hj : Int.tmod d2 4 = 3
                      · rw [if_pos hj] at H
                        obtain ⟨q, hq⟩ : ∃ q : Int, wrap64 (n3 + 1) = q := ⟨_, rfl⟩
                        rw [hq] at H
                        have hqw : IntKind.i64.wrap (n3 + 1) = q := (i64_w _).trans hq
                        have H' := Aside0.mk H
                        clear H
                        have hjw : IntKind.i64.wrap (Int.tmod d2 4) = 3 := by rw [hj]; decide
                        go_wp2
                        go_region_with (first
                          | (go_at_call 12; first
                            | (refine (impl_wayOf.calls (bt s i) x _ HX.out).mono ?_; rintro e w2 ⟨rfl, ⟨⟨nd, rfl⟩⟩⟩)
                            | (refine (impl_wayOf.calls (bt s im) y _ HY.out).mono ?_; rintro e w2 ⟨rfl, ⟨⟨nd, rfl⟩⟩⟩)))
                        all_goals go_wp2
                        all_goals go_roundg k1
                        case measure => omega
                        case rel => exact ⟨n0, n1, n2, q, wrap64 (i + 1), (by first | rfl | (simp; done) | (simp [*]; done)), H', ⟨by have := HK.out; omega⟩, ⟨blk_put (blk_drewN HM.out _) 3 _ rfl⟩, ⟨(pw_below_drewN HB2.out _).setCell HW.out _⟩⟩
                        case measure => omega
                        case rel => exact ⟨n0, n1, n2, q, wrap64 (i + 1), (by first | rfl | (simp; done) | (simp [*]; done)), H', ⟨by have := HK.out; omega⟩, ⟨blk_put (blk_drewN HM.out _) 3 _ rfl⟩, ⟨(pw_below_drewN HB2.out _).setCell HW.out _⟩⟩
                        case measure => omega
                        case rel => exact ⟨n0, n1, n2, q, wrap64 (i + 1), (by first | rfl | (simp; done) | (simp [*]; done)), H', ⟨by have := HK.out; omega⟩, ⟨blk_put (blk_drewN HM.out _) 3 _ rfl⟩, ⟨(pw_below_drewN HB2.out _).setCell HW.out _⟩⟩
                      · rw [if_neg hj] at H
                        exact absurd H (by simp)
              · rw [if_neg e4] at H
                exact absurd H (by simp)
            · rw [if_neg e3] at H
              exact absurd H (by simp)
          · rw [if_neg e2] at H
            exact absurd H (by simp)
        · rw [if_neg e1] at H
          have e1b : decide (i < (s.size : Int)) = false := decide_eq_false e1
          clear e1
          simp only [Option.some.injEq, Prod.mk.injEq] at H
          obtain ⟨rfl, rfl, rfl, rfl⟩ := H
          go_wp2
          go_quiet (fail)
          go_wp2
          refine bodyPost_ret (results_list (rs := [.tmp 2, .tmp 3, .tmp 4, .tmp 5]) rfl (by simp) (.tmp (.tmp (.tmp (.tmp .nil))))) rfl ?_
          exact ⟨rfl, pw_below_drewN HB2.out _⟩
  · replace c1 := Bool.eq_false_iff.mpr c1
    subst c1
    rw [if_neg (by decide)] at h
    simp only [Option.some.injEq, Prod.mk.injEq] at h
    obtain ⟨rfl, rfl, rfl, rfl⟩ := h
    go_enter Try.func6, Try.ntmps6
    go_wp2_with (first
      | (go_at_call 11; refine (impl_TermWalk.calls k a0 s false _ A1.out).mono ?_; rintro e w1 ⟨rfl, hb1⟩; have HB := Aside0.mk hb1; clear hb1))
    refine bodyPost_ret (results_list (rs := [.tmp 2, .tmp 3, .tmp 4, .tmp 5]) rfl (by simp) (.tmp (.tmp (.tmp (.tmp .nil))))) rfl ?_
    exact ⟨rfl, by repeat (first | (with_reducible first | exact HB.out | apply below_alloc | apply pw_below_drewN | apply below_drew1) | exact HB.out)⟩

/-! ### laws_FnExactTermTurns: function 3 -/
def laws_FnExactTermTurns.f (k : Nat) (a0 : ByteArray) : Option (Bool) := if (a0.size : Int) > 1048576 then (some true) else ((spec_TermTurns.f k a0).bind fun bt219 => ((impl_TermTurns.f k a0).bind fun bt223 => (if bt223.1 = bt219.1 then (if bt223.2.1 = bt219.2.1 then (if bt223.2.2.1 = bt219.2.2.1 then (if (bt223.2.2.2 != bt219.2.2.2) = true then (some false) else (some true)) else (some false)) else (some false)) else (some false))))
theorem laws_FnExactTermTurns.mono : ∀ a0 k, LeO (laws_FnExactTermTurns.f k a0) (laws_FnExactTermTurns.f (k + 1) a0) := by
  intro a0 k
  unfold laws_FnExactTermTurns.f
  repeat' first
      | (with_reducible exact impl_TermTurns.mono _ _)
      | (with_reducible exact spec_TermTurns.mono _ _)
      | (with_reducible exact LeO.refl _)
      | (with_reducible exact LeO.none _)
      | (with_reducible refine LeO.ite ?_ ?_)
      | (with_reducible refine LeO.bind ?_ (fun _ => ?_))
      | exact impl_TermTurns.mono _ _
      | exact spec_TermTurns.mono _ _
      | exact LeO.none _
      | refine LeO.ite ?_ ?_
      | refine LeO.bind ?_ (fun _ => ?_)
set_option maxHeartbeats 8000000 in
set_option maxRecDepth 100000 in
theorem laws_FnExactTermTurns.calls (k : Nat) (a0 : ByteArray) (r : Bool) (w : World) (h : laws_FnExactTermTurns.f k a0 = some r) :
    Calls Try.prog 3 #[.string a0] w fun e w' => e = .returned (.bool r) ∧ Below w.heap.size w w' := by
  have HB := Aside0.mk (Below.refl w.heap.size w)
  have H : (if (a0.size : Int) > 1048576 then (some true) else ((spec_TermTurns.f k a0).bind fun bt219 => ((impl_TermTurns.f k a0).bind fun bt223 => (if bt223.1 = bt219.1 then (if bt223.2.1 = bt219.2.1 then (if bt223.2.2.1 = bt219.2.2.1 then (if (bt223.2.2.2 != bt219.2.2.2) = true then (some false) else (some true)) else (some false)) else (some false)) else (some false))))) = some r := h
  clear h
  by_cases c2 : (a0.size : Int) > 1048576
  · rw [if_pos c2] at H
    have c2b0 : decide (1048576 < (a0.size : Int)) = true := decide_eq_true c2
    have c2b1 : decide (1048576 < a0.size) = true := decide_eq_true (by omega)
    clear c2
    obtain rfl := Option.some.inj H
    go_enter Try.func3, Try.ntmps3
    go_wp2
    go_ret
    exact ⟨by first | rfl | (simp [errW_none, errW_some] <;> rfl) | (simp [*, errW_none, errW_some] <;> rfl) | (exfalso; simp_all; done), by repeat (first | (with_reducible first | exact HB.out | apply below_alloc | apply pw_below_drewN | apply below_drew1) | exact HB.out)⟩
  · rw [if_neg c2] at H
    have c2b0 : decide (1048576 < (a0.size : Int)) = false := decide_eq_false c2
    have c2b1 : decide (1048576 < a0.size) = false := decide_eq_false (by omega)
    clear c2
    replace H := Option.bind_eq_some_iff.mp H
    obtain ⟨⟨t219, t220, t221, t222⟩, A30, H⟩ := H
    replace H : ((impl_TermTurns.f k a0).bind fun bt223 => (if bt223.1 = t219 then (if bt223.2.1 = t220 then (if bt223.2.2.1 = t221 then (if (bt223.2.2.2 != t222) = true then (some false) else (some true)) else (some false)) else (some false)) else (some false))) = some r := H
    have A3 := Aside0.mk A30
    clear A30
    replace H := Option.bind_eq_some_iff.mp H
    obtain ⟨⟨t223, t224, t225, t226⟩, A40, H⟩ := H
    replace H : (if t223 = t219 then (if t224 = t220 then (if t225 = t221 then (if (t226 != t222) = true then (some false) else (some true)) else (some false)) else (some false)) else (some false)) = some r := H
    have A4 := Aside0.mk A40
    clear A40
    by_cases c5 : t223 = t219
    · rw [if_pos c5] at H
      have c5b0 : (t223 == t219) = true := beq_iff_eq.mpr c5
      have c5b1 : (t223 != t219) = false := bne_eq_false_iff_eq.mpr c5
      clear c5
      by_cases c6 : t224 = t220
      · rw [if_pos c6] at H
        have c6b0 : (t224 == t220) = true := beq_iff_eq.mpr c6
        have c6b1 : (t224 != t220) = false := bne_eq_false_iff_eq.mpr c6
        clear c6
        by_cases c7 : t225 = t221
        · rw [if_pos c7] at H
          have c7b0 : (t225 == t221) = true := beq_iff_eq.mpr c7
          have c7b1 : (t225 != t221) = false := bne_eq_false_iff_eq.mpr c7
          clear c7
          by_cases c8 : (t226 != t222) = true
          · rw [if_pos c8] at H
            have c8b0 : (t226 != t222) = true := c8
            (try (have c8b1 : decide (t226 = t222) = false := by simpa using c8))
            (try (have c8b2 : (t226 == t222) = false := by simpa using c8))
            (try (have c8b3 : ¬ (t226 = t222) := by simpa using c8))
            clear c8
            obtain rfl := Option.some.inj H
            go_enter Try.func3, Try.ntmps3
            go_wp2_with (first | ((with_reducible refine gate_callee (f := 5) rfl ?_); refine goesL_ (some 16) rfl rfl Try.func5 (by kernel_rfl) rfl #[.string a0] rfl (by (try simp only [List.map_toArray, List.map_cons, List.map_nil]); first | done | rfl | (simp only [List.length_drop, List.length_take]; rfl)) ?_; (with_reducible refine (spec_TermTurns.calls k a0 t219 t220 t221 t222 _ A3.out).mono ?_); rintro e w9 ⟨rfl, hb⟩; refine ⟨_, rfl, ?_⟩; have n0_ := Aside0.mk (below_step (by repeat (first | (with_reducible first | exact HB.out | apply below_alloc | apply pw_below_drewN | apply below_drew1) | exact HB.out)) hb); clear HB; have HB := n0_; clear n0_; (try clear hb); (try clear hb2); (try clear hk); (try clear hi)) | ((with_reducible refine gate_callee (f := 6) rfl ?_); refine goesL_ (some 23) rfl rfl Try.func6 (by kernel_rfl) rfl #[.string a0] rfl (by (try simp only [List.map_toArray, List.map_cons, List.map_nil]); first | done | rfl | (simp only [List.length_drop, List.length_take]; rfl)) ?_; (with_reducible refine (impl_TermTurns.calls k a0 t223 t224 t225 t226 _ A4.out).mono ?_); rintro e w10 ⟨rfl, hb⟩; refine ⟨_, rfl, ?_⟩; have n0_ := Aside0.mk (below_step (by repeat (first | (with_reducible first | exact HB.out | apply below_alloc | apply pw_below_drewN | apply below_drew1) | exact HB.out)) hb); clear HB; have HB := n0_; clear n0_; (try clear hb); (try clear hb2); (try clear hk); (try clear hi)))
            go_ret
            exact ⟨by first | rfl | (simp [errW_none, errW_some] <;> rfl) | (simp [*, errW_none, errW_some] <;> rfl) | (exfalso; simp_all; done), by repeat (first | (with_reducible first | exact HB.out | apply below_alloc | apply pw_below_drewN | apply below_drew1) | exact HB.out)⟩
          · rw [if_neg c8] at H
            have c8b0 : (t226 != t222) = false := by simpa using c8
            (try (have c8b1 : decide (t226 = t222) = true := by simpa using c8))
            (try (have c8b2 : (t226 == t222) = true := by simpa using c8))
            clear c8
            obtain rfl := Option.some.inj H
            go_enter Try.func3, Try.ntmps3
            go_wp2_with (first | ((with_reducible refine gate_callee (f := 5) rfl ?_); refine goesL_ (some 16) rfl rfl Try.func5 (by kernel_rfl) rfl #[.string a0] rfl (by (try simp only [List.map_toArray, List.map_cons, List.map_nil]); first | done | rfl | (simp only [List.length_drop, List.length_take]; rfl)) ?_; (with_reducible refine (spec_TermTurns.calls k a0 t219 t220 t221 t222 _ A3.out).mono ?_); rintro e w11 ⟨rfl, hb⟩; refine ⟨_, rfl, ?_⟩; have n0_ := Aside0.mk (below_step (by repeat (first | (with_reducible first | exact HB.out | apply below_alloc | apply pw_below_drewN | apply below_drew1) | exact HB.out)) hb); clear HB; have HB := n0_; clear n0_; (try clear hb); (try clear hb2); (try clear hk); (try clear hi)) | ((with_reducible refine gate_callee (f := 6) rfl ?_); refine goesL_ (some 23) rfl rfl Try.func6 (by kernel_rfl) rfl #[.string a0] rfl (by (try simp only [List.map_toArray, List.map_cons, List.map_nil]); first | done | rfl | (simp only [List.length_drop, List.length_take]; rfl)) ?_; (with_reducible refine (impl_TermTurns.calls k a0 t223 t224 t225 t226 _ A4.out).mono ?_); rintro e w12 ⟨rfl, hb⟩; refine ⟨_, rfl, ?_⟩; have n0_ := Aside0.mk (below_step (by repeat (first | (with_reducible first | exact HB.out | apply below_alloc | apply pw_below_drewN | apply below_drew1) | exact HB.out)) hb); clear HB; have HB := n0_; clear n0_; (try clear hb); (try clear hb2); (try clear hk); (try clear hi)))
            go_ret
            exact ⟨by first | rfl | (simp [errW_none, errW_some] <;> rfl) | (simp [*, errW_none, errW_some] <;> rfl) | (exfalso; simp_all; done), by repeat (first | (with_reducible first | exact HB.out | apply below_alloc | apply pw_below_drewN | apply below_drew1) | exact HB.out)⟩
        · rw [if_neg c7] at H
          have c7b0 : (t225 == t221) = false := beq_eq_false_iff_ne.mpr c7
          have c7b1 : (t225 != t221) = true := bne_iff_ne.mpr c7
          obtain rfl := Option.some.inj H
          go_enter Try.func3, Try.ntmps3
          go_wp2_with (first | ((with_reducible refine gate_callee (f := 5) rfl ?_); refine goesL_ (some 16) rfl rfl Try.func5 (by kernel_rfl) rfl #[.string a0] rfl (by (try simp only [List.map_toArray, List.map_cons, List.map_nil]); first | done | rfl | (simp only [List.length_drop, List.length_take]; rfl)) ?_; (with_reducible refine (spec_TermTurns.calls k a0 t219 t220 t221 t222 _ A3.out).mono ?_); rintro e w13 ⟨rfl, hb⟩; refine ⟨_, rfl, ?_⟩; have n0_ := Aside0.mk (below_step (by repeat (first | (with_reducible first | exact HB.out | apply below_alloc | apply pw_below_drewN | apply below_drew1) | exact HB.out)) hb); clear HB; have HB := n0_; clear n0_; (try clear hb); (try clear hb2); (try clear hk); (try clear hi)) | ((with_reducible refine gate_callee (f := 6) rfl ?_); refine goesL_ (some 23) rfl rfl Try.func6 (by kernel_rfl) rfl #[.string a0] rfl (by (try simp only [List.map_toArray, List.map_cons, List.map_nil]); first | done | rfl | (simp only [List.length_drop, List.length_take]; rfl)) ?_; (with_reducible refine (impl_TermTurns.calls k a0 t223 t224 t225 t226 _ A4.out).mono ?_); rintro e w14 ⟨rfl, hb⟩; refine ⟨_, rfl, ?_⟩; have n0_ := Aside0.mk (below_step (by repeat (first | (with_reducible first | exact HB.out | apply below_alloc | apply pw_below_drewN | apply below_drew1) | exact HB.out)) hb); clear HB; have HB := n0_; clear n0_; (try clear hb); (try clear hb2); (try clear hk); (try clear hi)))
          go_ret
          exact ⟨by first | rfl | (simp [errW_none, errW_some] <;> rfl) | (simp [*, errW_none, errW_some] <;> rfl) | (exfalso; simp_all; done), by repeat (first | (with_reducible first | exact HB.out | apply below_alloc | apply pw_below_drewN | apply below_drew1) | exact HB.out)⟩
      · rw [if_neg c6] at H
        have c6b0 : (t224 == t220) = false := beq_eq_false_iff_ne.mpr c6
        have c6b1 : (t224 != t220) = true := bne_iff_ne.mpr c6
        obtain rfl := Option.some.inj H
        go_enter Try.func3, Try.ntmps3
        go_wp2_with (first | ((with_reducible refine gate_callee (f := 5) rfl ?_); refine goesL_ (some 16) rfl rfl Try.func5 (by kernel_rfl) rfl #[.string a0] rfl (by (try simp only [List.map_toArray, List.map_cons, List.map_nil]); first | done | rfl | (simp only [List.length_drop, List.length_take]; rfl)) ?_; (with_reducible refine (spec_TermTurns.calls k a0 t219 t220 t221 t222 _ A3.out).mono ?_); rintro e w15 ⟨rfl, hb⟩; refine ⟨_, rfl, ?_⟩; have n0_ := Aside0.mk (below_step (by repeat (first | (with_reducible first | exact HB.out | apply below_alloc | apply pw_below_drewN | apply below_drew1) | exact HB.out)) hb); clear HB; have HB := n0_; clear n0_; (try clear hb); (try clear hb2); (try clear hk); (try clear hi)) | ((with_reducible refine gate_callee (f := 6) rfl ?_); refine goesL_ (some 23) rfl rfl Try.func6 (by kernel_rfl) rfl #[.string a0] rfl (by (try simp only [List.map_toArray, List.map_cons, List.map_nil]); first | done | rfl | (simp only [List.length_drop, List.length_take]; rfl)) ?_; (with_reducible refine (impl_TermTurns.calls k a0 t223 t224 t225 t226 _ A4.out).mono ?_); rintro e w16 ⟨rfl, hb⟩; refine ⟨_, rfl, ?_⟩; have n0_ := Aside0.mk (below_step (by repeat (first | (with_reducible first | exact HB.out | apply below_alloc | apply pw_below_drewN | apply below_drew1) | exact HB.out)) hb); clear HB; have HB := n0_; clear n0_; (try clear hb); (try clear hb2); (try clear hk); (try clear hi)))
        go_ret
        exact ⟨by first | rfl | (simp [errW_none, errW_some] <;> rfl) | (simp [*, errW_none, errW_some] <;> rfl) | (exfalso; simp_all; done), by repeat (first | (with_reducible first | exact HB.out | apply below_alloc | apply pw_below_drewN | apply below_drew1) | exact HB.out)⟩
    · rw [if_neg c5] at H
      have c5b0 : (t223 == t219) = false := beq_eq_false_iff_ne.mpr c5
      have c5b1 : (t223 != t219) = true := bne_iff_ne.mpr c5
      obtain rfl := Option.some.inj H
      go_enter Try.func3, Try.ntmps3
      go_wp2_with (first | ((with_reducible refine gate_callee (f := 5) rfl ?_); refine goesL_ (some 16) rfl rfl Try.func5 (by kernel_rfl) rfl #[.string a0] rfl (by (try simp only [List.map_toArray, List.map_cons, List.map_nil]); first | done | rfl | (simp only [List.length_drop, List.length_take]; rfl)) ?_; (with_reducible refine (spec_TermTurns.calls k a0 t219 t220 t221 t222 _ A3.out).mono ?_); rintro e w17 ⟨rfl, hb⟩; refine ⟨_, rfl, ?_⟩; have n0_ := Aside0.mk (below_step (by repeat (first | (with_reducible first | exact HB.out | apply below_alloc | apply pw_below_drewN | apply below_drew1) | exact HB.out)) hb); clear HB; have HB := n0_; clear n0_; (try clear hb); (try clear hb2); (try clear hk); (try clear hi)) | ((with_reducible refine gate_callee (f := 6) rfl ?_); refine goesL_ (some 23) rfl rfl Try.func6 (by kernel_rfl) rfl #[.string a0] rfl (by (try simp only [List.map_toArray, List.map_cons, List.map_nil]); first | done | rfl | (simp only [List.length_drop, List.length_take]; rfl)) ?_; (with_reducible refine (impl_TermTurns.calls k a0 t223 t224 t225 t226 _ A4.out).mono ?_); rintro e w18 ⟨rfl, hb⟩; refine ⟨_, rfl, ?_⟩; have n0_ := Aside0.mk (below_step (by repeat (first | (with_reducible first | exact HB.out | apply below_alloc | apply pw_below_drewN | apply below_drew1) | exact HB.out)) hb); clear HB; have HB := n0_; clear n0_; (try clear hb); (try clear hb2); (try clear hk); (try clear hi)))
      go_ret
      exact ⟨by first | rfl | (simp [errW_none, errW_some] <;> rfl) | (simp [*, errW_none, errW_some] <;> rfl) | (exfalso; simp_all; done), by repeat (first | (with_reducible first | exact HB.out | apply below_alloc | apply pw_below_drewN | apply below_drew1) | exact HB.out)⟩

/-- THE ONE PURE STATEMENT of laws_FnExactTermTurns: yours. -/
def laws_FnExactTermTurns.Pure : Prop := ∀ (a0 : ByteArray), a0.size ≤ 140737488351232 → ∃ k, laws_FnExactTermTurns.f k a0 = some true
theorem laws_FnExactTermTurns.walk (P : laws_FnExactTermTurns.Pure) (a0 : ByteArray) (w : World) (w0 : a0.size ≤ 140737488351232) :
    Calls Try.prog 3 #[.string a0] w fun e w' => e = .returned (.bool true) ∧ Below w.heap.size w w' := by
  obtain ⟨k, h⟩ := P a0 w0
  refine (laws_FnExactTermTurns.calls k a0 true w h).mono ?_
  rintro e w' ⟨rfl, hd⟩
  exact ⟨rfl, hd⟩

end Go.Proofs.Ytopkmliapnalkaa.PFnExactTermTurns
