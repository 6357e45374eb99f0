/- Written by a program of this claim out of the translation: plain Lean functions and their contracts; what is proved: each Go function of this text comes to what its Lean function says. -/
import Derived.Test.YtgnfbejcikeofaaPFnTermEndx0
import Derived.Test.YtgnfbejcikeofaaPFnTermEndx4
import Derived.Test.YtgnfbejcikeofaaPFnTermEndx6
import Derived.Test.YtgnfbejcikeofaaPFnTermEndx8
namespace Go.Proofs.Ytgnfbejcikeofaa.PFnTermEnd
open Go.RowKit Go.Proofs.YtgnfbejcikeofaaW.PrintWords Go.Proofs.YtgnfbejcikeofaaW.PrintLast Go.Proofs.YtgnfbejcikeofaaW.PrintMore
attribute [local go_sem] max2_int min2_int max_two min_two max_three min_three max_four min_four   -- for this text's walks alone
set_option linter.unusedVariables false
set_option linter.unusedSimpArgs false

/-! ### laws_FnTermEnd: function 5 -/
mutual
def laws_FnTermEnd.j0 : Nat → ByteArray → Int → Int → Bool → Int → Int → Bool → Bool → Option (Bool)
  | 0, _, _, _, _, _, _, _, _ => none
  | k + 1, x3, x4, x5, x6, x7, x8, x9, x48 => if x48 = true then (if (x6 == x9) = true then (if x5 = x8 then (some (x4 == x7)) else (some false)) else (some false)) else ((impl_TermWalk.f k x3).bind fun bt279 => (laws_FnTermEnd.l0 k x4 x5 bt279.1 bt279.2 0 0 0))
def laws_FnTermEnd.l0 : Nat → Int → Int → ByteArray → Bool → Int → Int → Int → Option (Bool)
  | 0, _, _, _, _, _, _, _ => none
  | k + 1, x4, x5, x10, x11, x12, x13, x14 => if x14 < (x10.size : Int) then (if 0 ≤ x14 then (if (bt x10 x14) = 101 then (laws_FnTermEnd.l0 k x4 x5 x10 x11 (wrap64 (x12 + 1)) x13 (wrap64 (x14 + 1))) else (if (bt x10 x14) = 119 then (laws_FnTermEnd.l0 k x4 x5 x10 x11 (wrap64 (x12 - 1)) x13 (wrap64 (x14 + 1))) else (if (bt x10 x14) = 110 then (laws_FnTermEnd.l0 k x4 x5 x10 x11 x12 (wrap64 (x13 + 1)) (wrap64 (x14 + 1))) else (laws_FnTermEnd.l0 k x4 x5 x10 x11 x12 (wrap64 (x13 - 1)) (wrap64 (x14 + 1)))))) else (none)) else (if x11 = true then (if x12 = x4 then (some (x13 == x5)) else (some false)) else (some false))
end
def laws_FnTermEnd.f (k : Nat) (l0 : List Int) : Option (Bool) := if (l0.length : Int) > 1048576 then (some true) else ((spec_DrawTermEnd.f k l0).bind fun t272 => ((impl_TermEnd.f k t272).bind fun bt273 => ((spec_TermEnd.f k t272).bind fun bt276 => (if (bt273.2.2 != bt276.2.2) = true then (laws_FnTermEnd.j0 k t272 bt273.1 bt273.2.1 bt273.2.2 bt276.1 bt276.2.1 bt276.2.2 true) else (if bt273.2.1 = bt276.2.1 then (if bt273.1 = bt276.1 then (laws_FnTermEnd.j0 k t272 bt273.1 bt273.2.1 bt273.2.2 bt276.1 bt276.2.1 bt276.2.2 (!bt273.2.2)) else (laws_FnTermEnd.j0 k t272 bt273.1 bt273.2.1 bt273.2.2 bt276.1 bt276.2.1 bt276.2.2 true)) else (laws_FnTermEnd.j0 k t272 bt273.1 bt273.2.1 bt273.2.2 bt276.1 bt276.2.1 bt276.2.2 true))))))
theorem laws_FnTermEnd.mono_l : ∀ k, (∀ y0 y1 y2 y3 y4 y5 y6 y7, LeO (laws_FnTermEnd.j0 k y0 y1 y2 y3 y4 y5 y6 y7) (laws_FnTermEnd.j0 (k + 1) y0 y1 y2 y3 y4 y5 y6 y7)) ∧ (∀ y0 y1 y2 y3 y4 y5 y6, LeO (laws_FnTermEnd.l0 k y0 y1 y2 y3 y4 y5 y6) (laws_FnTermEnd.l0 (k + 1) y0 y1 y2 y3 y4 y5 y6))
  | 0 => ⟨fun _ _ _ _ _ _ _ _ r h => by simp [laws_FnTermEnd.j0] at h, fun _ _ _ _ _ _ _ r h => by simp [laws_FnTermEnd.l0] at h⟩
  | k + 1 => by
    obtain ⟨ih0, ih1⟩ := laws_FnTermEnd.mono_l k
    refine ⟨?_, ?_⟩
    · intro y0 y1 y2 y3 y4 y5 y6 y7
      unfold laws_FnTermEnd.j0
      repeat' first
      | (with_reducible exact ih0 _ _ _ _ _ _ _ _)
      | (with_reducible exact ih1 _ _ _ _ _ _ _)
      | (with_reducible exact impl_TermEnd.mono _ _)
      | (with_reducible exact impl_TermWalk.mono _ _)
      | (with_reducible exact spec_DrawTermEnd.mono _ _)
      | (with_reducible exact spec_TermEnd.mono _ _)
      | (with_reducible exact LeO.refl _)
      | (with_reducible exact LeO.none _)
      | (with_reducible refine LeO.ite ?_ ?_)
      | (with_reducible refine LeO.bind ?_ (fun _ => ?_))
      | exact ih0 _ _ _ _ _ _ _ _
      | exact ih1 _ _ _ _ _ _ _
      | exact impl_TermEnd.mono _ _
      | exact impl_TermWalk.mono _ _
      | exact spec_DrawTermEnd.mono _ _
      | exact spec_TermEnd.mono _ _
      | exact LeO.none _
      | refine LeO.ite ?_ ?_
      | refine LeO.bind ?_ (fun _ => ?_)
    · intro y0 y1 y2 y3 y4 y5 y6
      unfold laws_FnTermEnd.l0
      repeat' first
      | (with_reducible exact ih0 _ _ _ _ _ _ _ _)
      | (with_reducible exact ih1 _ _ _ _ _ _ _)
      | (with_reducible exact impl_TermEnd.mono _ _)
      | (with_reducible exact impl_TermWalk.mono _ _)
      | (with_reducible exact spec_DrawTermEnd.mono _ _)
      | (with_reducible exact spec_TermEnd.mono _ _)
      | (with_reducible exact LeO.refl _)
      | (with_reducible exact LeO.none _)
      | (with_reducible refine LeO.ite ?_ ?_)
      | (with_reducible refine LeO.bind ?_ (fun _ => ?_))
      | exact ih0 _ _ _ _ _ _ _ _
      | exact ih1 _ _ _ _ _ _ _
      | exact impl_TermEnd.mono _ _
      | exact impl_TermWalk.mono _ _
      | exact spec_DrawTermEnd.mono _ _
      | exact spec_TermEnd.mono _ _
      | exact LeO.none _
      | refine LeO.ite ?_ ?_
      | refine LeO.bind ?_ (fun _ => ?_)
theorem laws_FnTermEnd.mono : ∀ a0 k, LeO (laws_FnTermEnd.f k a0) (laws_FnTermEnd.f (k + 1) a0) := by
  intro a0 k
  obtain ⟨ih0, ih1⟩ := laws_FnTermEnd.mono_l k
  unfold laws_FnTermEnd.f
  repeat' first
      | (with_reducible exact ih0 _ _ _ _ _ _ _ _)
      | (with_reducible exact ih1 _ _ _ _ _ _ _)
      | (with_reducible exact impl_TermEnd.mono _ _)
      | (with_reducible exact impl_TermWalk.mono _ _)
      | (with_reducible exact spec_DrawTermEnd.mono _ _)
      | (with_reducible exact spec_TermEnd.mono _ _)
      | (with_reducible exact LeO.refl _)
      | (with_reducible exact LeO.none _)
      | (with_reducible refine LeO.ite ?_ ?_)
      | (with_reducible refine LeO.bind ?_ (fun _ => ?_))
      | exact ih0 _ _ _ _ _ _ _ _
      | exact ih1 _ _ _ _ _ _ _
      | exact impl_TermEnd.mono _ _
      | exact impl_TermWalk.mono _ _
      | exact spec_DrawTermEnd.mono _ _
      | exact spec_TermEnd.mono _ _
      | exact LeO.none _
      | refine LeO.ite ?_ ?_
      | refine LeO.bind ?_ (fun _ => ?_)
set_option maxHeartbeats 8000000 in
set_option maxRecDepth 100000 in
theorem laws_FnTermEnd.calls (k : Nat) (A0 : Option Addr) (c0 : Nat) (l0 : List Int) (r : Bool) (w : World) (hr0 : Kd.C (Kd.int .u8) w A0 l0.length l0) (hc0 : l0.length ≤ c0) (h : laws_FnTermEnd.f k l0 = some r) :
    Calls Try.prog 5 #[.slice A0 l0.length c0] w fun e w' => e = .returned (.bool r) ∧ Below w.heap.size w w' := by
  have HR0 := Aside0.mk hr0
  have HC0 := Aside0.mk hc0
  clear hr0 hc0
  have HB := Aside0.mk (Below.refl w.heap.size w)
  have H : (if (l0.length : Int) > 1048576 then (some true) else ((spec_DrawTermEnd.f k l0).bind fun t272 => ((impl_TermEnd.f k t272).bind fun bt273 => ((spec_TermEnd.f k t272).bind fun bt276 => (if (bt273.2.2 != bt276.2.2) = true then (laws_FnTermEnd.j0 k t272 bt273.1 bt273.2.1 bt273.2.2 bt276.1 bt276.2.1 bt276.2.2 true) else (if bt273.2.1 = bt276.2.1 then (if bt273.1 = bt276.1 then (laws_FnTermEnd.j0 k t272 bt273.1 bt273.2.1 bt273.2.2 bt276.1 bt276.2.1 bt276.2.2 (!bt273.2.2)) else (laws_FnTermEnd.j0 k t272 bt273.1 bt273.2.1 bt273.2.2 bt276.1 bt276.2.1 bt276.2.2 true)) else (laws_FnTermEnd.j0 k t272 bt273.1 bt273.2.1 bt273.2.2 bt276.1 bt276.2.1 bt276.2.2 true))))))) = some r := h
  clear h
  by_cases c2 : (l0.length : Int) > 1048576
  · rw [if_pos c2] at H
    have c2b0 : decide (1048576 < (l0.length : Int)) = true := decide_eq_true c2
    have c2b1 : decide (1048576 < l0.length) = true := decide_eq_true (by omega)
    clear c2
    obtain rfl := Option.some.inj H
    go_enter Try.func5, Try.ntmps5
    go_wp2
    go_ret
    exact ⟨by first | rfl | (simp [errW_none, errW_some] <;> rfl) | (simp [*, errW_none, errW_some] <;> rfl), by repeat (first | (with_reducible first | exact HB.out | apply below_alloc | apply pw_below_drewN | apply below_drew1) | exact HB.out)⟩
  · rw [if_neg c2] at H
    have c2b0 : decide (1048576 < (l0.length : Int)) = false := decide_eq_false c2
    have c2b1 : decide (1048576 < l0.length) = false := decide_eq_false (by omega)
    clear c2
    replace H := Option.bind_eq_some_iff.mp H
    obtain ⟨t272, A30, H⟩ := H
    replace H : ((impl_TermEnd.f k t272).bind fun bt273 => ((spec_TermEnd.f k t272).bind fun bt276 => (if (bt273.2.2 != bt276.2.2) = true then (laws_FnTermEnd.j0 k t272 bt273.1 bt273.2.1 bt273.2.2 bt276.1 bt276.2.1 bt276.2.2 true) else (if bt273.2.1 = bt276.2.1 then (if bt273.1 = bt276.1 then (laws_FnTermEnd.j0 k t272 bt273.1 bt273.2.1 bt273.2.2 bt276.1 bt276.2.1 bt276.2.2 (!bt273.2.2)) else (laws_FnTermEnd.j0 k t272 bt273.1 bt273.2.1 bt273.2.2 bt276.1 bt276.2.1 bt276.2.2 true)) else (laws_FnTermEnd.j0 k t272 bt273.1 bt273.2.1 bt273.2.2 bt276.1 bt276.2.1 bt276.2.2 true))))) = some r := H
    have A3 := Aside0.mk A30
    clear A30
    replace H := Option.bind_eq_some_iff.mp H
    obtain ⟨⟨t273, t274, t275⟩, A40, H⟩ := H
    replace H : ((spec_TermEnd.f k t272).bind fun bt276 => (if (t275 != bt276.2.2) = true then (laws_FnTermEnd.j0 k t272 t273 t274 t275 bt276.1 bt276.2.1 bt276.2.2 true) else (if t274 = bt276.2.1 then (if t273 = bt276.1 then (laws_FnTermEnd.j0 k t272 t273 t274 t275 bt276.1 bt276.2.1 bt276.2.2 (!t275)) else (laws_FnTermEnd.j0 k t272 t273 t274 t275 bt276.1 bt276.2.1 bt276.2.2 true)) else (laws_FnTermEnd.j0 k t272 t273 t274 t275 bt276.1 bt276.2.1 bt276.2.2 true)))) = some r := H
    have A4 := Aside0.mk A40
    clear A40
    replace H := Option.bind_eq_some_iff.mp H
    obtain ⟨⟨t276, t277, t278⟩, A50, H⟩ := H
    replace H : (if (t275 != t278) = true then (laws_FnTermEnd.j0 k t272 t273 t274 t275 t276 t277 t278 true) else (if t274 = t277 then (if t273 = t276 then (laws_FnTermEnd.j0 k t272 t273 t274 t275 t276 t277 t278 (!t275)) else (laws_FnTermEnd.j0 k t272 t273 t274 t275 t276 t277 t278 true)) else (laws_FnTermEnd.j0 k t272 t273 t274 t275 t276 t277 t278 true))) = some r := H
    have A5 := Aside0.mk A50
    clear A50
    have HC6 := Aside0.mk H
    clear H
    go_enter Try.func5, Try.ntmps5
    go_upto_region 6 with (first | ((with_reducible refine gate_callee (f := 15) rfl ?_); refine goesL_ (some 19) rfl rfl Try.func15 (by kernel_rfl) rfl #[.slice A0 l0.length c0] rfl (by (try simp only [List.map_toArray, List.map_cons, List.map_nil]); first | done | rfl | (simp only [List.length_drop, List.length_take]; rfl)) ?_; (with_reducible refine (spec_DrawTermEnd.calls k _ _ l0 t272 _ ?side1 ?side2 A3.out).mono ?_); (case side1 => repeat (first | exact HR0.out | (with_reducible refine Kd.C_alloc ?_ _) | (with_reducible refine Kd.C_drewN ?_ _) | (with_reducible refine Kd.C_drew ?_))); (case side2 => exact HC0.out); rintro e w7 ⟨rfl, hb⟩; refine ⟨_, rfl, ?_⟩; have n0_ := Aside0.mk (below_step (by repeat (first | (with_reducible first | exact HB.out | apply below_alloc | apply pw_below_drewN | apply below_drew1) | exact HB.out)) hb); clear HB; have HB := n0_; clear n0_; (try clear hb); (try clear hb2); (try clear hk); (try clear hi)) | ((with_reducible refine gate_callee (f := 16) rfl ?_); refine goesL_ (some 22) rfl rfl Try.func16 (by kernel_rfl) rfl #[.string t272] rfl (by (try simp only [List.map_toArray, List.map_cons, List.map_nil]); first | done | rfl | (simp only [List.length_drop, List.length_take]; rfl)) ?_; (with_reducible refine (impl_TermEnd.calls k t272 t273 t274 t275 _ A4.out).mono ?_); rintro e w8 ⟨rfl, hb⟩; refine ⟨_, rfl, ?_⟩; have n0_ := Aside0.mk (below_step (by repeat (first | (with_reducible first | exact HB.out | apply below_alloc | apply pw_below_drewN | apply below_drew1) | exact HB.out)) hb); clear HB; have HB := n0_; clear n0_; (try clear hb); (try clear hb2); (try clear hk); (try clear hi)) | ((with_reducible refine gate_callee (f := 17) rfl ?_); refine goesL_ (some 28) rfl rfl Try.func17 (by kernel_rfl) rfl #[.string t272] rfl (by (try simp only [List.map_toArray, List.map_cons, List.map_nil]); first | done | rfl | (simp only [List.length_drop, List.length_take]; rfl)) ?_; (with_reducible refine (spec_TermEnd.calls k t272 t276 t277 t278 _ A5.out).mono ?_); rintro e w9 ⟨rfl, hb⟩; refine ⟨_, rfl, ?_⟩; have n0_ := Aside0.mk (below_step (by repeat (first | (with_reducible first | exact HB.out | apply below_alloc | apply pw_below_drewN | apply below_drew1) | exact HB.out)) hb); clear HB; have HB := n0_; clear n0_; (try clear hb); (try clear hb2); (try clear hk); (try clear hi)))
    (try simp only [Act.put, List.setIfInBounds_toArray, List.set_cons_zero, List.set_cons_succ])
    go_cut [48] (fun v48 wc => ∃ (kq : Nat) (x48_5 : Bool), v48 = .bool x48_5 ∧ Aside0 (laws_FnTermEnd.j0 kq t272 t273 t274 t275 t276 t277 t278 x48_5 = some r) ∧ Aside0 (kq ≤ k) ∧ Aside0 (Below w.heap.size w wc))
    case first =>
      have H := HC6.out
      clear HC6
      by_cases c10 : (t275 != t278) = true
      · rw [if_pos c10] at H
        have c10b0 : (t275 != t278) = true := c10
        (try (have c10b1 : decide (t275 = t278) = false := by simpa using c10))
        (try (have c10b2 : (t275 == t278) = false := by simpa using c10))
        (try (have c10b3 : ¬ (t275 = t278) := by simpa using c10))
        clear c10
        (first | rw [c10b0] | (simp only [i64_w, i32_w]; rw [c10b0]) | skip)
        have H' := Aside0.mk H
        clear H
        go_wp2
        go_meet
        case rel => exact ⟨_, (true), (by first | rfl | (simp; done) | (simp [*]; done)), H', ⟨by first | omega | exact Nat.le_refl _⟩, ⟨by repeat (first | (with_reducible first | exact HB.out | apply below_alloc | apply pw_below_drewN | apply below_drew1) | exact HB.out)⟩⟩
      · rw [if_neg c10] at H
        have c10b0 : (t275 != t278) = false := by simpa using c10
        (try (have c10b1 : decide (t275 = t278) = true := by simpa using c10))
        (try (have c10b2 : (t275 == t278) = true := by simpa using c10))
        clear c10
        (first | rw [c10b0] | (simp only [i64_w, i32_w]; rw [c10b0]) | skip)
        by_cases c11 : t274 = t277
        · rw [if_pos c11] at H
          have c11b0 : (t274 == t277) = true := beq_iff_eq.mpr c11
          have c11b1 : (t274 != t277) = false := bne_eq_false_iff_eq.mpr c11
          clear c11
          by_cases c12 : t273 = t276
          · rw [if_pos c12] at H
            have c12b0 : (t273 == t276) = true := beq_iff_eq.mpr c12
            have c12b1 : (t273 != t276) = false := bne_eq_false_iff_eq.mpr c12
            clear c12
            have H' := Aside0.mk H
            clear H
            go_wp2
            go_meet
            case rel => exact ⟨_, (!t275), (by first | rfl | (simp; done) | (simp [*]; done)), H', ⟨by first | omega | exact Nat.le_refl _⟩, ⟨by repeat (first | (with_reducible first | exact HB.out | apply below_alloc | apply pw_below_drewN | apply below_drew1) | exact HB.out)⟩⟩
          · rw [if_neg c12] at H
            have c12b0 : (t273 == t276) = false := beq_eq_false_iff_ne.mpr c12
            have c12b1 : (t273 != t276) = true := bne_iff_ne.mpr c12
            have H' := Aside0.mk H
            clear H
            go_wp2
            go_meet
            case rel => exact ⟨_, (true), (by first | rfl | (simp; done) | (simp [*]; done)), H', ⟨by first | omega | exact Nat.le_refl _⟩, ⟨by repeat (first | (with_reducible first | exact HB.out | apply below_alloc | apply pw_below_drewN | apply below_drew1) | exact HB.out)⟩⟩
        · rw [if_neg c11] at H
          have c11b0 : (t274 == t277) = false := beq_eq_false_iff_ne.mpr c11
          have c11b1 : (t274 != t277) = true := bne_iff_ne.mpr c11
          have H' := Aside0.mk H
          clear H
          go_wp2
          go_meet
          case rel => exact ⟨_, (true), (by first | rfl | (simp; done) | (simp [*]; done)), H', ⟨by first | omega | exact Nat.le_refl _⟩, ⟨by repeat (first | (with_reducible first | exact HB.out | apply below_alloc | apply pw_below_drewN | apply below_drew1) | exact HB.out)⟩⟩
    case rest =>
      clear HC6
      try clear c1
      try clear c2
      try clear c2b0
      try clear c2b1
      try clear p2
      try clear c5
      try clear c10
      try clear c10b0
      try clear c10b1
      try clear c10b2
      try clear c11
      try clear c11b0
      try clear c11b1
      try clear c12
      try clear c12b0
      try clear c12b1
      obtain ⟨kq, x48_5, rfl, HA, HJ5, HB⟩ := hcut
      cases kq with
      | zero => exact absurd HA.out (by simp [laws_FnTermEnd.j0])
      | succ kj5 =>
        have H := HA.out
        clear HA
        simp only [laws_FnTermEnd.j0] at H
        by_cases c13 : x48_5 = true
        · subst c13
          have H1 : (if (t275 == t278) = true then (if t274 = t277 then (some (t273 == t276)) else (some false)) else (some false)) = some r := by rw [if_pos rfl] at H; exact H
          clear H
          have H := H1
          clear H1
          by_cases c14 : (t275 == t278) = true
          · rw [if_pos c14] at H
            have c14b0 : (t275 == t278) = true := c14
            (try (have c14b1 : decide (t275 = t278) = true := by simpa using c14))
            (try (have c14b2 : (t275 == t278) = true := by simpa using c14))
            clear c14
            by_cases c15 : t274 = t277
            · rw [if_pos c15] at H
              have c15b0 : (t274 == t277) = true := beq_iff_eq.mpr c15
              have c15b1 : (t274 != t277) = false := bne_eq_false_iff_eq.mpr c15
              clear c15
              obtain rfl := Option.some.inj H
              go_wp2
              go_ret
              exact ⟨by first | rfl | (simp [errW_none, errW_some] <;> rfl) | (simp [*, errW_none, errW_some] <;> rfl), by repeat (first | (with_reducible first | exact HB.out | apply below_alloc | apply pw_below_drewN | apply below_drew1) | exact HB.out)⟩
            · rw [if_neg c15] at H
              have c15b0 : (t274 == t277) = false := beq_eq_false_iff_ne.mpr c15
              have c15b1 : (t274 != t277) = true := bne_iff_ne.mpr c15
              obtain rfl := Option.some.inj H
              go_wp2
              go_ret
              exact ⟨by first | rfl | (simp [errW_none, errW_some] <;> rfl) | (simp [*, errW_none, errW_some] <;> rfl), by repeat (first | (with_reducible first | exact HB.out | apply below_alloc | apply pw_below_drewN | apply below_drew1) | exact HB.out)⟩
          · rw [if_neg c14] at H
            have c14b0 : (t275 == t278) = false := by simpa using c14
            (try (have c14b1 : decide (t275 = t278) = false := by simpa using c14))
            (try (have c14b2 : (t275 == t278) = false := by simpa using c14))
            (try (have c14b3 : ¬ (t275 = t278) := by simpa using c14))
            clear c14
            obtain rfl := Option.some.inj H
            go_wp2
            go_ret
            exact ⟨by first | rfl | (simp [errW_none, errW_some] <;> rfl) | (simp [*, errW_none, errW_some] <;> rfl), by repeat (first | (with_reducible first | exact HB.out | apply below_alloc | apply pw_below_drewN | apply below_drew1) | exact HB.out)⟩
        · replace c13 := Bool.eq_false_iff.mpr c13
          subst c13
          have H1 : ((impl_TermWalk.f kj5 t272).bind fun bt279 => (laws_FnTermEnd.l0 kj5 t273 t274 bt279.1 bt279.2 0 0 0)) = some r := by rw [if_neg (show ¬ (false = true) by decide)] at H; exact H
          clear H
          have H := H1
          clear H1
          replace H := Option.bind_eq_some_iff.mp H
          obtain ⟨⟨t279, t280⟩, A160, H⟩ := H
          replace H : (laws_FnTermEnd.l0 kj5 t273 t274 t279 t280 0 0 0) = some r := H
          have A16 := Aside0.mk A160
          clear A160
          have H' := Aside0.mk H
          clear H
          go_wp2_with (first | ((with_reducible refine gate_callee (f := 10) rfl ?_); refine goesL_ (some 64) rfl rfl Try.func10 (by kernel_rfl) rfl #[.string t272] rfl (by (try simp only [List.map_toArray, List.map_cons, List.map_nil]); first | done | rfl | (simp only [List.length_drop, List.length_take]; rfl)) ?_; (with_reducible refine (impl_TermWalk.calls kj5 t272 t279 t280 _ A16.out).mono ?_); rintro e w17 ⟨rfl, hb⟩; refine ⟨_, rfl, ?_⟩; have n0_ := Aside0.mk (below_step (by repeat (first | (with_reducible first | exact HB.out | apply below_alloc | apply pw_below_drewN | apply below_drew1) | exact HB.out)) hb); clear HB; have HB := n0_; clear n0_; (try clear hb); (try clear hb2); (try clear hk); (try clear hi)))
          go_loopg [12, 13, 14] kj5 (fun kq v12 v13 v14 w' => ∃ (x12_2 : Int) (x13_2 : Int) (x14_2 : Int), v12 = .int .i64 x12_2 ∧ v13 = .int .i64 x13_2 ∧ v14 = .int .i64 x14_2 ∧ Aside0 (laws_FnTermEnd.l0 kq t273 t274 t279 t280 x12_2 x13_2 x14_2 = some r) ∧ Aside0 (kq ≤ kj5) ∧ Aside0 (Below w.heap.size w w'))
          case atStart => exact ⟨(0), (0), (0), (by first | rfl | (simp; done) | (simp [*]; done)), (by first | rfl | (simp; done) | (simp [*]; done)), (by first | rfl | (simp; done) | (simp [*]; done)), H', ⟨Nat.le_refl _⟩, ⟨by repeat (first | (with_reducible first | exact HB.out | apply below_alloc | apply pw_below_drewN | apply below_drew1) | exact HB.out)⟩⟩
          case round =>
            clear H'
            try clear c1
            try clear c2
            try clear c2b0
            try clear c2b1
            try clear p2
            try clear c5
            try clear c10
            try clear c10b0
            try clear c10b1
            try clear c10b2
            try clear c11
            try clear c11b0
            try clear c11b1
            try clear c12
            try clear c12b0
            try clear c12b1
            try clear c13
            try clear c14
            try clear c14b0
            try clear c14b1
            try clear c14b2
            try clear c15
            try clear c15b0
            try clear c15b1
            try clear c16
            try clear c17
            try clear p2
            obtain ⟨x12_2, x13_2, x14_2, rfl, rfl, rfl, HA, HK2, HB⟩ := hrel
            cases gk with
            | zero => exact absurd HA.out (by simp [laws_FnTermEnd.l0])
            | succ k2 =>
              have H := HA.out
              clear HA
              simp only [laws_FnTermEnd.l0] at H
              by_cases c18 : x14_2 < (t279.size : Int)
              · rw [if_pos c18] at H
                have c18b0 : decide (x14_2 < (t279.size : Int)) = true := decide_eq_true c18
                clear c18
                by_cases c19 : 0 ≤ x14_2
                · rw [if_pos c19] at H
                  have c19b0 : decide (0 ≤ x14_2) = true := decide_eq_true c19
                  clear c19
                  by_cases c21 : (bt t279 x14_2) = 101
                  · rw [if_pos c21] at H
                    have c21b0 : ((bt t279 x14_2) == 101) = true := beq_iff_eq.mpr c21
                    have c21b1 : ((bt t279 x14_2) != 101) = false := bne_eq_false_iff_eq.mpr c21
                    clear c21
                    have H' := Aside0.mk H
                    clear H
                    have p20 : 0 ≤ (x14_2 : Int) := of_decide_eq_true (by first | (with_reducible assumption) | assumption)
                    have q20 : x14_2 < (t279.size : Int) := of_decide_eq_true (by first | (with_reducible assumption) | assumption)
                    have hx20 := bt_at t279 x14_2
                    replace p20 := eq_true p20
                    replace q20 := eq_true q20
                    go_wp2
                    go_roundg k2
                    case measure => have := HJ5.out; have := HK2.out; omega
                    case rel => exact ⟨(wrap64 (x12_2 + 1)), (x13_2), (wrap64 (x14_2 + 1)), (by first | rfl | (simp; done) | (simp [*]; done)), (by first | rfl | (simp; done) | (simp [*]; done)), (by first | rfl | (simp; done) | (simp [*]; done)), H', ⟨by have := HJ5.out; have := HK2.out; omega⟩, ⟨by repeat (first | (with_reducible first | exact HB.out | apply below_alloc | apply pw_below_drewN | apply below_drew1) | exact HB.out)⟩⟩
                  · rw [if_neg c21] at H
                    have c21b0 : ((bt t279 x14_2) == 101) = false := beq_eq_false_iff_ne.mpr c21
                    have c21b1 : ((bt t279 x14_2) != 101) = true := bne_iff_ne.mpr c21
                    by_cases c22 : (bt t279 x14_2) = 119
                    · rw [if_pos c22] at H
                      have c22b0 : ((bt t279 x14_2) == 119) = true := beq_iff_eq.mpr c22
                      have c22b1 : ((bt t279 x14_2) != 119) = false := bne_eq_false_iff_eq.mpr c22
                      clear c22
                      have H' := Aside0.mk H
                      clear H
                      have p20 : 0 ≤ (x14_2 : Int) := of_decide_eq_true (by first | (with_reducible assumption) | assumption)
                      have q20 : x14_2 < (t279.size : Int) := of_decide_eq_true (by first | (with_reducible assumption) | assumption)
                      have hx20 := bt_at t279 x14_2
                      replace p20 := eq_true p20
                      replace q20 := eq_true q20
                      go_wp2
                      go_roundg k2
                      case measure => have := HJ5.out; have := HK2.out; omega
                      case rel => exact ⟨(wrap64 (x12_2 - 1)), (x13_2), (wrap64 (x14_2 + 1)), (by first | rfl | (simp; done) | (simp [*]; done)), (by first | rfl | (simp; done) | (simp [*]; done)), (by first | rfl | (simp; done) | (simp [*]; done)), H', ⟨by have := HJ5.out; have := HK2.out; omega⟩, ⟨by repeat (first | (with_reducible first | exact HB.out | apply below_alloc | apply pw_below_drewN | apply below_drew1) | exact HB.out)⟩⟩
                    · rw [if_neg c22] at H
                      have c22b0 : ((bt t279 x14_2) == 119) = false := beq_eq_false_iff_ne.mpr c22
                      have c22b1 : ((bt t279 x14_2) != 119) = true := bne_iff_ne.mpr c22
                      by_cases c23 : (bt t279 x14_2) = 110
                      · rw [if_pos c23] at H
                        have c23b0 : ((bt t279 x14_2) == 110) = true := beq_iff_eq.mpr c23
                        have c23b1 : ((bt t279 x14_2) != 110) = false := bne_eq_false_iff_eq.mpr c23
                        clear c23
                        have H' := Aside0.mk H
                        clear H
                        have p20 : 0 ≤ (x14_2 : Int) := of_decide_eq_true (by first | (with_reducible assumption) | assumption)
                        have q20 : x14_2 < (t279.size : Int) := of_decide_eq_true (by first | (with_reducible assumption) | assumption)
                        have hx20 := bt_at t279 x14_2
                        replace p20 := eq_true p20
                        replace q20 := eq_true q20
                        go_wp2
                        go_roundg k2
                        case measure => have := HJ5.out; have := HK2.out; omega
                        case rel => exact ⟨(x12_2), (wrap64 (x13_2 + 1)), (wrap64 (x14_2 + 1)), (by first | rfl | (simp; done) | (simp [*]; done)), (by first | rfl | (simp; done) | (simp [*]; done)), (by first | rfl | (simp; done) | (simp [*]; done)), H', ⟨by have := HJ5.out; have := HK2.out; omega⟩, ⟨by repeat (first | (with_reducible first | exact HB.out | apply below_alloc | apply pw_below_drewN | apply below_drew1) | exact HB.out)⟩⟩
                      · rw [if_neg c23] at H
                        have c23b0 : ((bt t279 x14_2) == 110) = false := beq_eq_false_iff_ne.mpr c23
                        have c23b1 : ((bt t279 x14_2) != 110) = true := bne_iff_ne.mpr c23
                        have H' := Aside0.mk H
                        clear H
                        have p20 : 0 ≤ (x14_2 : Int) := of_decide_eq_true (by first | (with_reducible assumption) | assumption)
                        have q20 : x14_2 < (t279.size : Int) := of_decide_eq_true (by first | (with_reducible assumption) | assumption)
                        have hx20 := bt_at t279 x14_2
                        replace p20 := eq_true p20
                        replace q20 := eq_true q20
                        go_wp2
                        go_roundg k2
                        case measure => have := HJ5.out; have := HK2.out; omega
                        case rel => exact ⟨(x12_2), (wrap64 (x13_2 - 1)), (wrap64 (x14_2 + 1)), (by first | rfl | (simp; done) | (simp [*]; done)), (by first | rfl | (simp; done) | (simp [*]; done)), (by first | rfl | (simp; done) | (simp [*]; done)), H', ⟨by have := HJ5.out; have := HK2.out; omega⟩, ⟨by repeat (first | (with_reducible first | exact HB.out | apply below_alloc | apply pw_below_drewN | apply below_drew1) | exact HB.out)⟩⟩
                · rw [if_neg c19] at H
                  exact absurd H (by simp)
              · rw [if_neg c18] at H
                have c18b0 : decide (x14_2 < (t279.size : Int)) = false := decide_eq_false c18
                clear c18
                by_cases c24 : t280 = true
                · subst c24
                  have H1 : (if x12_2 = t273 then (some (x13_2 == t274)) else (some false)) = some r := by rw [if_pos rfl] at H; exact H
                  clear H
                  have H := H1
                  clear H1
                  by_cases c25 : x12_2 = t273
                  · rw [if_pos c25] at H
                    have c25b0 : (x12_2 == t273) = true := beq_iff_eq.mpr c25
                    have c25b1 : (x12_2 != t273) = false := bne_eq_false_iff_eq.mpr c25
                    clear c25
                    obtain rfl := Option.some.inj H
                    go_wp2
                    go_ret
                    exact ⟨by first | rfl | (simp [errW_none, errW_some] <;> rfl) | (simp [*, errW_none, errW_some] <;> rfl), by repeat (first | (with_reducible first | exact HB.out | apply below_alloc | apply pw_below_drewN | apply below_drew1) | exact HB.out)⟩
                  · rw [if_neg c25] at H
                    have c25b0 : (x12_2 == t273) = false := beq_eq_false_iff_ne.mpr c25
                    have c25b1 : (x12_2 != t273) = true := bne_iff_ne.mpr c25
                    obtain rfl := Option.some.inj H
                    go_wp2
                    go_ret
                    exact ⟨by first | rfl | (simp [errW_none, errW_some] <;> rfl) | (simp [*, errW_none, errW_some] <;> rfl), by repeat (first | (with_reducible first | exact HB.out | apply below_alloc | apply pw_below_drewN | apply below_drew1) | exact HB.out)⟩
                · replace c24 := Bool.eq_false_iff.mpr c24
                  subst c24
                  have H1 : (some false) = some r := by rw [if_neg (show ¬ (false = true) by decide)] at H; exact H
                  clear H
                  have H := H1
                  clear H1
                  obtain rfl := Option.some.inj H
                  go_wp2
                  go_ret
                  exact ⟨by first | rfl | (simp [errW_none, errW_some] <;> rfl) | (simp [*, errW_none, errW_some] <;> rfl), by repeat (first | (with_reducible first | exact HB.out | apply below_alloc | apply pw_below_drewN | apply below_drew1) | exact HB.out)⟩

/-- THE ONE PURE STATEMENT of laws_FnTermEnd: yours. -/
def laws_FnTermEnd.Pure : Prop := ∀ (l0 : List Int), l0.length ≤ maxLen → l0.length * 1 ≤ 140737488351232 → (∀ x ∈ l0, (Lit.int .u8 x).wf = true) → ∃ k, laws_FnTermEnd.f k l0 = some true
theorem laws_FnTermEnd.walk (P : laws_FnTermEnd.Pure) (a0 : Option Addr) (len0 cap0 : Nat) (z0 : List Int) (w : World) (w0 : (a0 = none ∧ len0 = 0 ∧ cap0 = 0 ∧ z0 = []) ∨ ∃ x, a0 = some x ∧ len0 ≤ cap0 ∧ cap0 ≤ maxLen ∧ z0.length = cap0 ∧ (∀ i, i < z0.length → w.cell? (x.add i) = some (.int .u8 (z0.getD i 0))) ∧ ∀ n ∈ z0, (Lit.int .u8 n).wf = true) (y0 : len0 * 1 ≤ 140737488351232) :
    Calls Try.prog 5 #[.slice a0 len0 cap0] w fun e w' => e = .returned (.bool true) ∧ Below w.heap.size w w' := by
  obtain ⟨l0, rfl, hr0, hm0, hw0, hc0⟩ := ReadsInt.ofRowC w0
  obtain ⟨k, h⟩ := P l0 hm0 y0 hw0
  refine (laws_FnTermEnd.calls k _ _ l0 true w (Kd.C_of_reads (d := (0 : Int)) (h1 := fun _ => rfl) hr0) hc0 h).mono ?_
  rintro e w' ⟨rfl, hd⟩
  exact ⟨rfl, hd⟩

end Go.Proofs.Ytgnfbejcikeofaa.PFnTermEnd
