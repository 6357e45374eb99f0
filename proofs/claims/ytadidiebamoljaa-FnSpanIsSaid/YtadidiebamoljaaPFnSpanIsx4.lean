/- Written by a program of this claim out of the translation: plain Lean functions and their contracts; what is proved: each Go function of this text comes to what its Lean function says. -/
import Derived.Test.YtadidiebamoljaaPFnSpanIsx0
import Derived.Test.YtadidiebamoljaaPFnSpanIsx2
import Derived.Test.YtadidiebamoljaaPFnSpanIsx3
namespace Go.Proofs.Ytadidiebamoljaa.PFnSpanIs
open Go.RowKit Go.Proofs.YtadidiebamoljaaW.PrintWords Go.Proofs.YtadidiebamoljaaW.PrintLast Go.Proofs.YtadidiebamoljaaW.PrintMore
attribute [local go_sem] max2_int min2_int max_two min_two max_three min_three max_four min_four   -- for this text's walks alone
set_option linter.unusedVariables false
set_option linter.unusedSimpArgs false

/-! ### impl_FoldFits: function 8 -/
mutual
def impl_FoldFits.j0 : Nat → List Int → Int → Bool → Option (Bool)
  | 0, _, _, _ => none
  | k + 1, x0, x1, x18 => if x18 = true then (some false) else ((impl_sum.f k x0).bind fun t168 => (impl_FoldFits.l0 k x0 (mn x1 t168) (wrap64 ((mn x1 t168) + 1)) 0))
def impl_FoldFits.l0 : Nat → List Int → Int → Int → Int → Option (Bool)
  | 0, _, _, _, _ => none
  | k + 1, x0, x1, x24, x25 => if x25 < x24 then (if 0 ≤ (wrap64 (x1 + 1)) then (if (wrap64 (x1 + 1) : Int).toNat ≤ 281474976710656 then ((some (List.replicate (wrap64 (x1 + 1) : Int).toNat false : List Bool)).bind fun y169 => (if 0 ≤ x25 then (if x25 < (y169.length : Int) then (impl_FoldFits.l1 k x0 x1 (y169.set (x25 : Int).toNat true) x24 x25 x0 (x0.length : Int) 0) else (none)) else (none))) else (none)) else (none)) else (some false)
def impl_FoldFits.l1 : Nat → List Int → Int → List Bool → Int → Int → List Int → Int → Int → Option (Bool)
  | 0, _, _, _, _, _, _, _, _ => none
  | k + 1, x0, x1, x6, x24, x25, x34, x35, x36 => if x36 < x35 then (if 0 ≤ x36 then (if x36 < (x34.length : Int) then (if 0 ≤ (wrap64 (x1 + 1)) then (if (wrap64 (x1 + 1) : Int).toNat ≤ 281474976710656 then (impl_FoldFits.l2 k x0 x1 (rd x34 x36) (List.replicate (wrap64 (x1 + 1) : Int).toNat false) x24 x25 x34 x35 x36 x6 (x6.length : Int) 0) else (none)) else (none)) else (none)) else (none)) else ((slices_Contains_bool_bool.f k x6 true).bind fun t173 => (if t173 = true then (some true) else (impl_FoldFits.l0 k x0 x1 x24 (wrap64 (x25 + 1)))))
def impl_FoldFits.l2 : Nat → List Int → Int → Int → List Bool → Int → Int → List Int → Int → Int → List Bool → Int → Int → Option (Bool)
  | 0, _, _, _, _, _, _, _, _, _, _, _, _ => none
  | k + 1, x0, x1, x8, x9, x24, x25, x34, x35, x36, x43, x44, x45 => if x45 < x44 then (if 0 ≤ x45 then (if x45 < (x43.length : Int) then (if rdOf false x43 x45 = true then (impl_FoldFits.j4 k x0 x1 x8 x9 x45 (rdOf false x43 x45) x24 x25 x34 x35 x36 x43 x44 x45 (decide ((wrap64 (x45 + x8)) ≤ x1))) else (impl_FoldFits.j4 k x0 x1 x8 x9 x45 (rdOf false x43 x45) x24 x25 x34 x35 x36 x43 x44 x45 false)) else (none)) else (none)) else (impl_FoldFits.l1 k x0 x1 x9 x24 x25 x34 x35 (wrap64 (x36 + 1)))
def impl_FoldFits.j4 : Nat → List Int → Int → Int → List Bool → Int → Bool → Int → Int → List Int → Int → Int → List Bool → Int → Int → Bool → Option (Bool)
  | 0, _, _, _, _, _, _, _, _, _, _, _, _, _, _, _ => none
  | k + 1, x0, x1, x8, x9, x10, x11, x24, x25, x34, x35, x36, x43, x44, x45, x57 => if x57 = true then (if 0 ≤ (wrap64 (x10 + x8)) then (if (wrap64 (x10 + x8)) < (x9.length : Int) then ((some (x9.set ((wrap64 (x10 + x8)) : Int).toNat true : List Bool)).bind fun y179 => (if x11 = true then (if (wrap64 (x10 - x8)) ≥ 0 then (if 0 ≤ (wrap64 (x10 - x8)) then (if (wrap64 (x10 - x8)) < (x9.length : Int) then (impl_FoldFits.l2 k x0 x1 x8 (y179.set ((wrap64 (x10 - x8)) : Int).toNat true) x24 x25 x34 x35 x36 x43 x44 (wrap64 (x45 + 1))) else (none)) else (none)) else (impl_FoldFits.l2 k x0 x1 x8 y179 x24 x25 x34 x35 x36 x43 x44 (wrap64 (x45 + 1)))) else (impl_FoldFits.l2 k x0 x1 x8 y179 x24 x25 x34 x35 x36 x43 x44 (wrap64 (x45 + 1))))) else (none)) else (none)) else (if x11 = true then (if (wrap64 (x10 - x8)) ≥ 0 then (if 0 ≤ (wrap64 (x10 - x8)) then (if (wrap64 (x10 - x8)) < (x9.length : Int) then (impl_FoldFits.l2 k x0 x1 x8 (x9.set ((wrap64 (x10 - x8)) : Int).toNat true) x24 x25 x34 x35 x36 x43 x44 (wrap64 (x45 + 1))) else (none)) else (none)) else (impl_FoldFits.l2 k x0 x1 x8 x9 x24 x25 x34 x35 x36 x43 x44 (wrap64 (x45 + 1)))) else (impl_FoldFits.l2 k x0 x1 x8 x9 x24 x25 x34 x35 x36 x43 x44 (wrap64 (x45 + 1))))
end
def impl_FoldFits.f (k : Nat) (l0 : List Int) (a1 : Int) : Option (Bool) := (impl_isRuler.f k l0).bind fun t167 => (if t167 = true then (impl_FoldFits.j0 k l0 a1 (decide (a1 < 0))) else (impl_FoldFits.j0 k l0 a1 true))
theorem impl_FoldFits.mono_l : ∀ k, (∀ y0 y1 y2, LeO (impl_FoldFits.j0 k y0 y1 y2) (impl_FoldFits.j0 (k + 1) y0 y1 y2)) ∧ (∀ y0 y1 y2 y3, LeO (impl_FoldFits.l0 k y0 y1 y2 y3) (impl_FoldFits.l0 (k + 1) y0 y1 y2 y3)) ∧ (∀ y0 y1 y2 y3 y4 y5 y6 y7, LeO (impl_FoldFits.l1 k y0 y1 y2 y3 y4 y5 y6 y7) (impl_FoldFits.l1 (k + 1) y0 y1 y2 y3 y4 y5 y6 y7)) ∧ (∀ y0 y1 y2 y3 y4 y5 y6 y7 y8 y9 y10 y11, LeO (impl_FoldFits.l2 k y0 y1 y2 y3 y4 y5 y6 y7 y8 y9 y10 y11) (impl_FoldFits.l2 (k + 1) y0 y1 y2 y3 y4 y5 y6 y7 y8 y9 y10 y11)) ∧ (∀ y0 y1 y2 y3 y4 y5 y6 y7 y8 y9 y10 y11 y12 y13 y14, LeO (impl_FoldFits.j4 k y0 y1 y2 y3 y4 y5 y6 y7 y8 y9 y10 y11 y12 y13 y14) (impl_FoldFits.j4 (k + 1) y0 y1 y2 y3 y4 y5 y6 y7 y8 y9 y10 y11 y12 y13 y14))
  | 0 => ⟨fun _ _ _ r h => by simp [impl_FoldFits.j0] at h, fun _ _ _ _ r h => by simp [impl_FoldFits.l0] at h, fun _ _ _ _ _ _ _ _ r h => by simp [impl_FoldFits.l1] at h, fun _ _ _ _ _ _ _ _ _ _ _ _ r h => by simp [impl_FoldFits.l2] at h, fun _ _ _ _ _ _ _ _ _ _ _ _ _ _ _ r h => by simp [impl_FoldFits.j4] at h⟩
  | k + 1 => by
    obtain ⟨ih0, ih1, ih2, ih3, ih4⟩ := impl_FoldFits.mono_l k
    refine ⟨?_, ?_, ?_, ?_, ?_⟩
    · intro y0 y1 y2
      unfold impl_FoldFits.j0
      repeat' first
      | (with_reducible exact ih0 _ _ _)
      | (with_reducible exact ih1 _ _ _ _)
      | (with_reducible exact ih2 _ _ _ _ _ _ _ _)
      | (with_reducible exact ih3 _ _ _ _ _ _ _ _ _ _ _ _)
      | (with_reducible exact ih4 _ _ _ _ _ _ _ _ _ _ _ _ _ _ _)
      | (with_reducible exact impl_isRuler.mono _ _)
      | (with_reducible exact impl_sum.mono _ _)
      | (with_reducible exact slices_Contains_bool_bool.mono _ _ _)
      | (with_reducible exact LeO.refl _)
      | (with_reducible exact LeO.none _)
      | (with_reducible refine LeO.ite ?_ ?_)
      | (with_reducible refine LeO.bind ?_ (fun _ => ?_))
      | exact ih0 _ _ _
      | exact ih1 _ _ _ _
      | exact ih2 _ _ _ _ _ _ _ _
      | exact ih3 _ _ _ _ _ _ _ _ _ _ _ _
      | exact ih4 _ _ _ _ _ _ _ _ _ _ _ _ _ _ _
      | exact impl_isRuler.mono _ _
      | exact impl_sum.mono _ _
      | exact slices_Contains_bool_bool.mono _ _ _
      | exact LeO.none _
      | refine LeO.ite ?_ ?_
      | refine LeO.bind ?_ (fun _ => ?_)
    · intro y0 y1 y2 y3
      unfold impl_FoldFits.l0
      repeat' first
      | (with_reducible exact ih0 _ _ _)
      | (with_reducible exact ih1 _ _ _ _)
      | (with_reducible exact ih2 _ _ _ _ _ _ _ _)
      | (with_reducible exact ih3 _ _ _ _ _ _ _ _ _ _ _ _)
      | (with_reducible exact ih4 _ _ _ _ _ _ _ _ _ _ _ _ _ _ _)
      | (with_reducible exact impl_isRuler.mono _ _)
      | (with_reducible exact impl_sum.mono _ _)
      | (with_reducible exact slices_Contains_bool_bool.mono _ _ _)
      | (with_reducible exact LeO.refl _)
      | (with_reducible exact LeO.none _)
      | (with_reducible refine LeO.ite ?_ ?_)
      | (with_reducible refine LeO.bind ?_ (fun _ => ?_))
      | exact ih0 _ _ _
      | exact ih1 _ _ _ _
      | exact ih2 _ _ _ _ _ _ _ _
      | exact ih3 _ _ _ _ _ _ _ _ _ _ _ _
      | exact ih4 _ _ _ _ _ _ _ _ _ _ _ _ _ _ _
      | exact impl_isRuler.mono _ _
      | exact impl_sum.mono _ _
      | exact slices_Contains_bool_bool.mono _ _ _
      | exact LeO.none _
      | refine LeO.ite ?_ ?_
      | refine LeO.bind ?_ (fun _ => ?_)
    · intro y0 y1 y2 y3 y4 y5 y6 y7
      unfold impl_FoldFits.l1
      repeat' first
      | (with_reducible exact ih0 _ _ _)
      | (with_reducible exact ih1 _ _ _ _)
      | (with_reducible exact ih2 _ _ _ _ _ _ _ _)
      | (with_reducible exact ih3 _ _ _ _ _ _ _ _ _ _ _ _)
      | (with_reducible exact ih4 _ _ _ _ _ _ _ _ _ _ _ _ _ _ _)
      | (with_reducible exact impl_isRuler.mono _ _)
      | (with_reducible exact impl_sum.mono _ _)
      | (with_reducible exact slices_Contains_bool_bool.mono _ _ _)
      | (with_reducible exact LeO.refl _)
      | (with_reducible exact LeO.none _)
      | (with_reducible refine LeO.ite ?_ ?_)
      | (with_reducible refine LeO.bind ?_ (fun _ => ?_))
      | exact ih0 _ _ _
      | exact ih1 _ _ _ _
      | exact ih2 _ _ _ _ _ _ _ _
      | exact ih3 _ _ _ _ _ _ _ _ _ _ _ _
      | exact ih4 _ _ _ _ _ _ _ _ _ _ _ _ _ _ _
      | exact impl_isRuler.mono _ _
      | exact impl_sum.mono _ _
      | exact slices_Contains_bool_bool.mono _ _ _
      | exact LeO.none _
      | refine LeO.ite ?_ ?_
      | refine LeO.bind ?_ (fun _ => ?_)
    · intro y0 y1 y2 y3 y4 y5 y6 y7 y8 y9 y10 y11
      unfold impl_FoldFits.l2
      repeat' first
      | (with_reducible exact ih0 _ _ _)
      | (with_reducible exact ih1 _ _ _ _)
      | (with_reducible exact ih2 _ _ _ _ _ _ _ _)
      | (with_reducible exact ih3 _ _ _ _ _ _ _ _ _ _ _ _)
      | (with_reducible exact ih4 _ _ _ _ _ _ _ _ _ _ _ _ _ _ _)
      | (with_reducible exact impl_isRuler.mono _ _)
      | (with_reducible exact impl_sum.mono _ _)
      | (with_reducible exact slices_Contains_bool_bool.mono _ _ _)
      | (with_reducible exact LeO.refl _)
      | (with_reducible exact LeO.none _)
      | (with_reducible refine LeO.ite ?_ ?_)
      | (with_reducible refine LeO.bind ?_ (fun _ => ?_))
      | exact ih0 _ _ _
      | exact ih1 _ _ _ _
      | exact ih2 _ _ _ _ _ _ _ _
      | exact ih3 _ _ _ _ _ _ _ _ _ _ _ _
      | exact ih4 _ _ _ _ _ _ _ _ _ _ _ _ _ _ _
      | exact impl_isRuler.mono _ _
      | exact impl_sum.mono _ _
      | exact slices_Contains_bool_bool.mono _ _ _
      | exact LeO.none _
      | refine LeO.ite ?_ ?_
      | refine LeO.bind ?_ (fun _ => ?_)
    · intro y0 y1 y2 y3 y4 y5 y6 y7 y8 y9 y10 y11 y12 y13 y14
      unfold impl_FoldFits.j4
      repeat' first
      | (with_reducible exact ih0 _ _ _)
      | (with_reducible exact ih1 _ _ _ _)
      | (with_reducible exact ih2 _ _ _ _ _ _ _ _)
      | (with_reducible exact ih3 _ _ _ _ _ _ _ _ _ _ _ _)
      | (with_reducible exact ih4 _ _ _ _ _ _ _ _ _ _ _ _ _ _ _)
      | (with_reducible exact impl_isRuler.mono _ _)
      | (with_reducible exact impl_sum.mono _ _)
      | (with_reducible exact slices_Contains_bool_bool.mono _ _ _)
      | (with_reducible exact LeO.refl _)
      | (with_reducible exact LeO.none _)
      | (with_reducible refine LeO.ite ?_ ?_)
      | (with_reducible refine LeO.bind ?_ (fun _ => ?_))
      | exact ih0 _ _ _
      | exact ih1 _ _ _ _
      | exact ih2 _ _ _ _ _ _ _ _
      | exact ih3 _ _ _ _ _ _ _ _ _ _ _ _
      | exact ih4 _ _ _ _ _ _ _ _ _ _ _ _ _ _ _
      | exact impl_isRuler.mono _ _
      | exact impl_sum.mono _ _
      | exact slices_Contains_bool_bool.mono _ _ _
      | exact LeO.none _
      | refine LeO.ite ?_ ?_
      | refine LeO.bind ?_ (fun _ => ?_)
theorem impl_FoldFits.mono : ∀ a0 a1 k, LeO (impl_FoldFits.f k a0 a1) (impl_FoldFits.f (k + 1) a0 a1) := by
  intro a0 a1 k
  obtain ⟨ih0, ih1, ih2, ih3, ih4⟩ := impl_FoldFits.mono_l k
  unfold impl_FoldFits.f
  repeat' first
      | (with_reducible exact ih0 _ _ _)
      | (with_reducible exact ih1 _ _ _ _)
      | (with_reducible exact ih2 _ _ _ _ _ _ _ _)
      | (with_reducible exact ih3 _ _ _ _ _ _ _ _ _ _ _ _)
      | (with_reducible exact ih4 _ _ _ _ _ _ _ _ _ _ _ _ _ _ _)
      | (with_reducible exact impl_isRuler.mono _ _)
      | (with_reducible exact impl_sum.mono _ _)
      | (with_reducible exact slices_Contains_bool_bool.mono _ _ _)
      | (with_reducible exact LeO.refl _)
      | (with_reducible exact LeO.none _)
      | (with_reducible refine LeO.ite ?_ ?_)
      | (with_reducible refine LeO.bind ?_ (fun _ => ?_))
      | exact ih0 _ _ _
      | exact ih1 _ _ _ _
      | exact ih2 _ _ _ _ _ _ _ _
      | exact ih3 _ _ _ _ _ _ _ _ _ _ _ _
      | exact ih4 _ _ _ _ _ _ _ _ _ _ _ _ _ _ _
      | exact impl_isRuler.mono _ _
      | exact impl_sum.mono _ _
      | exact slices_Contains_bool_bool.mono _ _ _
      | exact LeO.none _
      | refine LeO.ite ?_ ?_
      | refine LeO.bind ?_ (fun _ => ?_)
set_option maxHeartbeats 8000000 in
set_option maxRecDepth 100000 in
theorem impl_FoldFits.calls (k : Nat) (A0 : Option Addr) (c0 : Nat) (l0 : List Int) (a1 : Int) (r : Bool) (w : World) (hr0 : Kd.C (Kd.int .i64) w A0 l0.length l0) (hc0 : l0.length ≤ c0) (h : impl_FoldFits.f k l0 a1 = some r) :
    Calls Try.prog 8 #[.slice A0 l0.length c0, .int .i64 a1] w fun e w' => e = .returned (.bool r) ∧ Below w.heap.size w w' := by
  have HR0 := Aside0.mk hr0
  have HC0 := Aside0.mk hc0
  clear hr0 hc0
  have HB := Aside0.mk (Below.refl w.heap.size w)
  have H : ((impl_isRuler.f k l0).bind fun t167 => (if t167 = true then (impl_FoldFits.j0 k l0 a1 (decide (a1 < 0))) else (impl_FoldFits.j0 k l0 a1 true))) = some r := h
  clear h
  have HC3 := Aside0.mk H
  clear H
  go_enter Try.func8, Try.ntmps8
  go_upto_region 1 with (fail)
  go_cut [18] (fun v18 wc => ∃ (kq : Nat) (x18_2 : Bool), v18 = .bool x18_2 ∧ Aside0 (impl_FoldFits.j0 kq l0 a1 x18_2 = some r) ∧ Aside0 (kq ≤ k) ∧ Aside0 (Below w.heap.size w wc))
  case first =>
    have H := HC3.out
    clear HC3
    replace H := Option.bind_eq_some_iff.mp H
    obtain ⟨t167, A40, H⟩ := H
    replace H : (if t167 = true then (impl_FoldFits.j0 k l0 a1 (decide (a1 < 0))) else (impl_FoldFits.j0 k l0 a1 true)) = some r := H
    have A4 := Aside0.mk A40
    clear A40
    by_cases c5 : t167 = true
    · subst c5
      have H1 : (impl_FoldFits.j0 k l0 a1 (decide (a1 < 0))) = some r := by rw [if_pos rfl] at H; exact H
      clear H
      have H := H1
      clear H1
      have H' := Aside0.mk H
      clear H
      go_wp2_with (first | ((with_reducible refine gate_callee (f := 13) rfl ?_); refine goesL_ (some 13) rfl rfl Try.func13 (by kernel_rfl) rfl #[.slice A0 l0.length c0] rfl (by (try simp only [List.map_toArray, List.map_cons, List.map_nil]); first | done | rfl | (simp only [List.length_drop, List.length_take]; rfl)) ?_; (with_reducible refine (impl_isRuler.calls k _ _ l0 true _ ?side1 ?side2 A4.out).mono ?_); (case side1 => repeat (first | exact (Kd.C_below HR0.out HB.out) | (with_reducible refine Kd.C_alloc ?_ _) | (with_reducible refine Kd.C_drewN ?_ _) | (with_reducible refine Kd.C_drew ?_))); (case side2 => exact HC0.out); rintro e w' ⟨rfl, ⟨nd, rfl⟩⟩; refine ⟨_, rfl, ?_⟩))
      go_meet
      case rel => exact ⟨_, (decide (a1 < 0)), (by first | rfl | (simp; done) | (simp [*]; done)), H', ⟨by first | omega | exact Nat.le_refl _⟩, ⟨by repeat (first | (with_reducible first | exact HB.out | apply below_alloc | apply pw_below_drewN | apply below_drew1) | exact HB.out)⟩⟩
    · replace c5 := Bool.eq_false_iff.mpr c5
      subst c5
      have H1 : (impl_FoldFits.j0 k l0 a1 true) = some r := by rw [if_neg (show ¬ (false = true) by decide)] at H; exact H
      clear H
      have H := H1
      clear H1
      have H' := Aside0.mk H
      clear H
      go_wp2_with (first | ((with_reducible refine gate_callee (f := 13) rfl ?_); refine goesL_ (some 13) rfl rfl Try.func13 (by kernel_rfl) rfl #[.slice A0 l0.length c0] rfl (by (try simp only [List.map_toArray, List.map_cons, List.map_nil]); first | done | rfl | (simp only [List.length_drop, List.length_take]; rfl)) ?_; (with_reducible refine (impl_isRuler.calls k _ _ l0 false _ ?side1 ?side2 A4.out).mono ?_); (case side1 => repeat (first | exact (Kd.C_below HR0.out HB.out) | (with_reducible refine Kd.C_alloc ?_ _) | (with_reducible refine Kd.C_drewN ?_ _) | (with_reducible refine Kd.C_drew ?_))); (case side2 => exact HC0.out); rintro e w' ⟨rfl, ⟨nd, rfl⟩⟩; refine ⟨_, rfl, ?_⟩))
      go_meet
      case rel => exact ⟨_, (true), (by first | rfl | (simp; done) | (simp [*]; done)), H', ⟨by first | omega | exact Nat.le_refl _⟩, ⟨by repeat (first | (with_reducible first | exact HB.out | apply below_alloc | apply pw_below_drewN | apply below_drew1) | exact HB.out)⟩⟩
  case rest =>
    clear HC3
    try clear c1
    try clear p2
    try clear c5
    obtain ⟨kq, x18_2, rfl, HA, HJ2, HB⟩ := hcut
    cases kq with
    | zero => exact absurd HA.out (by simp [impl_FoldFits.j0])
    | succ kj2 =>
      have H := HA.out
      clear HA
      simp only [impl_FoldFits.j0] at H
      by_cases c6 : x18_2 = true
      · subst c6
        have H1 : (some false) = some r := by rw [if_pos rfl] at H; exact H
        clear H
        have H := H1
        clear H1
        obtain rfl := Option.some.inj H
        go_wp2
        go_ret
        exact ⟨by first | rfl | (simp [errW_none, errW_some] <;> rfl) | (simp [*, errW_none, errW_some] <;> rfl) | (exfalso; simp_all; done), by repeat (first | (with_reducible first | exact HB.out | apply below_alloc | apply pw_below_drewN | apply below_drew1) | exact HB.out)⟩
      · replace c6 := Bool.eq_false_iff.mpr c6
        subst c6
        have H1 : ((impl_sum.f kj2 l0).bind fun t168 => (impl_FoldFits.l0 kj2 l0 (mn a1 t168) (wrap64 ((mn a1 t168) + 1)) 0)) = some r := by rw [if_neg (show ¬ (false = true) by decide)] at H; exact H
        clear H
        have H := H1
        clear H1
        replace H := Option.bind_eq_some_iff.mp H
        obtain ⟨t168, A70, H⟩ := H
        replace H : (impl_FoldFits.l0 kj2 l0 (mn a1 t168) (wrap64 ((mn a1 t168) + 1)) 0) = some r := H
        have A7 := Aside0.mk A70
        clear A70
        obtain ⟨ji8, hji8⟩ : ∃ j_ : Int, (mn a1 t168) = j_ := ⟨_, rfl⟩
        replace H : (impl_FoldFits.l0 kj2 l0 ji8 (wrap64 ((ji8) + 1)) 0) = some r := by first | (rw [hji8] at H; exact H) | (simp only [hji8] at H ⊢; exact H)
        (try rw [hji8] at A7)
        have hji8_ : (if t168 < a1 then t168 else a1) = ji8 := hji8
        obtain ⟨lim, hlim⟩ : ∃ j_ : Int, wrap64 (ji8 + 1) = j_ := ⟨_, rfl⟩
        rw [hlim] at H
        have hlimw : IntKind.i64.wrap (ji8 + 1) = lim := (i64_w _).trans hlim
        have H' := Aside0.mk H
        clear H
        go_wp2_with (first | ((with_reducible refine gate_callee (f := 16) rfl ?_); refine goesL_ (some 21) rfl rfl Try.func16 (by kernel_rfl) rfl #[.slice A0 l0.length c0] rfl (by (try simp only [List.map_toArray, List.map_cons, List.map_nil]); first | done | rfl | (simp only [List.length_drop, List.length_take]; rfl)) ?_; (with_reducible refine (impl_sum.calls kj2 _ _ l0 t168 _ ?side1 ?side2 A7.out).mono ?_); (case side1 => repeat (first | exact (Kd.C_below HR0.out HB.out) | (with_reducible refine Kd.C_alloc ?_ _) | (with_reducible refine Kd.C_drewN ?_ _) | (with_reducible refine Kd.C_drew ?_))); (case side2 => exact HC0.out); rintro e w' ⟨rfl, ⟨nd, rfl⟩⟩; refine ⟨_, rfl, ?_⟩))
        go_loopg [25] kj2 (fun kq v25 w' => ∃ (x25_2 : Int), v25 = .int .i64 x25_2 ∧ Aside0 (impl_FoldFits.l0 kq l0 ji8 lim x25_2 = some r) ∧ Aside0 (kq ≤ kj2) ∧ Aside0 (Below w.heap.size w w'))
        case atStart => exact ⟨(0), (by first | rfl | (simp; done) | (simp [*]; done)), H', ⟨Nat.le_refl _⟩, ⟨by repeat (first | (with_reducible first | exact HB.out | apply below_alloc | apply pw_below_drewN | apply below_drew1) | exact HB.out)⟩⟩
        case round =>
          clear H'
          try clear c1
          try clear p2
          try clear c5
          try clear c6
          try clear p6
          try clear c8
          try clear p2
          obtain ⟨x25_2, rfl, HA, HK2, HB⟩ := hrel
          cases gk with
          | zero => exact absurd HA.out (by simp [impl_FoldFits.l0])
          | succ k2 =>
            have H := HA.out
            clear HA
            simp only [impl_FoldFits.l0] at H
            by_cases c9 : x25_2 < lim
            · rw [if_pos c9] at H
              have c9b0 : decide (x25_2 < lim) = true := decide_eq_true c9
              clear c9
              replace H : (if 0 ≤ (lim) then (if (lim : Int).toNat ≤ 281474976710656 then ((some (List.replicate (lim : Int).toNat false : List Bool)).bind fun y169 => (if 0 ≤ x25_2 then (if x25_2 < (y169.length : Int) then (impl_FoldFits.l1 k2 l0 ji8 (y169.set (x25_2 : Int).toNat true) lim x25_2 l0 (l0.length : Int) 0) else (none)) else (none))) else (none)) else (none)) = some r := by first | (rw [hlim] at H; exact H) | (simp only [hlim] at H ⊢; exact H)
              by_cases c11 : 0 ≤ (lim)
              · rw [if_pos c11] at H
                have c11b0 := eq_true c11
                have c11b1 : decide (0 ≤ (lim)) = true := decide_eq_true c11
                clear c11
                by_cases c12 : (lim : Int).toNat ≤ 281474976710656
                · rw [if_pos c12] at H
                  have c12b0 := eq_true c12
                  have c12b1 : decide ((lim : Int).toNat ≤ 281474976710656) = true := decide_eq_true c12
                  clear c12
                  obtain ⟨y169, hy169⟩ : ∃ y_ : List Bool, y_ = (List.replicate (lim : Int).toNat false) := ⟨_, rfl⟩
                  replace H : (if 0 ≤ x25_2 then (if x25_2 < (y169.length : Int) then (impl_FoldFits.l1 k2 l0 ji8 (y169.set (x25_2 : Int).toNat true) lim x25_2 l0 (l0.length : Int) 0) else (none)) else (none)) = some r := by first | (rw [hy169]; with_reducible exact H) | (have H2_ := (Option.bind_some _ _).symm.trans H; rw [hy169]; with_reducible exact H2_) | (have H2_ := (Option.bind_some _ _).symm.trans H; with_reducible exact H2_) | with_reducible exact H | (rw [hy169]; exact H) | exact H
                  have Ny169 := Aside0.mk hy169
                  clear hy169
                  by_cases c13 : 0 ≤ x25_2
                  · rw [if_pos c13] at H
                    have c13b0 : decide (0 ≤ x25_2) = true := decide_eq_true c13
                    clear c13
                    by_cases c14 : x25_2 < (y169.length : Int)
                    · rw [if_pos c14] at H
                      have c14b0 : decide (x25_2 < (y169.length : Int)) = true := decide_eq_true c14
                      clear c14
                      obtain ⟨y172, hy172⟩ : ∃ y_ : List Bool, y_ = (y169.set (x25_2 : Int).toNat true) := ⟨_, rfl⟩
                      replace H : (impl_FoldFits.l1 k2 l0 ji8 y172 lim x25_2 l0 (l0.length : Int) 0) = some r := by first | (rw [hy172]; with_reducible exact H) | (have H2_ := (Option.bind_some _ _).symm.trans H; rw [hy172]; with_reducible exact H2_) | (have H2_ := (Option.bind_some _ _).symm.trans H; with_reducible exact H2_) | with_reducible exact H | (rw [hy172]; exact H) | exact H
                      have Ny172 := Aside0.mk hy172
                      clear hy172
                      have H' := Aside0.mk H
                      clear H
                      go_wp2_with (first | ((with_reducible refine gate_dst (N := 30) rfl ?_); refine Kd.R_make Kd.bool _ 4 rfl (N := 30) rfl 43 _ _ rfl lim rfl rfl Try.underlying43 (.bool false) 1 info4 rfl (by decide) (by omega) false (ok := fun _ => True) (okp := fun _ => True) rfl (fun _ hk => hk) trivial (of_decide_eq_true (by first | (with_reducible assumption) | assumption)) (Nat.le_trans (Nat.mul_le_mul_right _ (of_decide_eq_true (by first | (with_reducible assumption) | assumption) : lim.toNat ≤ 281474976710656)) (by omega)) (Below.refl _ _) (Nat.le_refl _) ?_; intro v170 w16 ho17 hb hg_ hnew_; clear hg_ hnew_; (first | rw [← Ny169.out] at ho17 | (simp only [Int.reduceToNat] at ho17; rw [← Ny169.out] at ho17)); have n0_ := Aside0.mk (Kd.R_lower ho17 (below_size (by repeat (first | (with_reducible first | exact HB.out | apply below_alloc | apply pw_below_drewN | apply below_drew1) | exact HB.out)))); have n1_ := Aside0.mk (below_step (by repeat (first | (with_reducible first | exact HB.out | apply below_alloc | apply pw_below_drewN | apply below_drew1) | exact HB.out)) hb); clear HB; have HO171 := n0_; have HB := n1_; clear n0_ n1_; clear hb ho17; have p15 : 0 ≤ (x25_2 : Int) := of_decide_eq_true (by first | (with_reducible assumption) | assumption); have q15 : (x25_2 : Int) < ((y169.length : Int) : Int) := of_decide_eq_true (by first | (with_reducible assumption) | assumption); obtain ⟨go15, co15, eo15, gb15, gl15, cl15, HG15⟩ := Kd.R_form HO171.out (by omega); (first | cases eo15 | (injection eo15 with ea_ en_ ec_; (first | subst ea_ | (injection ea_ with ea_; subst ea_)); subst ec_; clear en_)); have GB15 := Aside0.mk gb15; have GG15 := Aside0.mk HG15; clear gb15 gl15 HG15; obtain ⟨hx15_0, hf15_0⟩ := Kd.R_celln false HO171.out (x25_2 : Int) p15 q15; replace p15 := eq_true p15; replace q15 := eq_true q15; obtain ⟨hy18_, hz18_⟩ := Kd.R_celln false HO171.out (x25_2 : Int) (of_decide_eq_true (by first | (with_reducible assumption) | assumption)) (of_decide_eq_true (by first | (with_reducible assumption) | assumption)); have HP18 := Kd.R_putg HO171.out (x25_2 : Int) true) | ((with_reducible refine gate_store (t := 4) (p := 33) rfl ?_); refine store_event (t := 4) (p := 33) (v := ?vo_w19) (w1 := (w16.setCell ⟨go15, (x25_2 : Int).toNat, none⟩ (.bool true))) ?hg ?ho ?hn ?hr ?_; (case ho => rfl); (case hg => rfl); (case hn => rfl); (case hr => first | (go_simp; done) | (go_simp; rfl)); intro w19 hw; have hg : w16.grownBy w19 (some go15) := (by rw [hw]; exact HP18.2); have hp_ : Kd.R Kd.bool 4 w19 w.heap.size (fun _ => True) (.slice (some ⟨go15, 0, none⟩) y169.length co15) y172 := (by rw [hw, Ny172.out]; exact HP18.1); clear HP18; have n0_ := Aside0.mk (hp_); have n1_ := Aside0.mk ((by rw [hw]; exact below_set (HB.out) GB15.out : Below w.heap.size w w19)); clear HO171; clear HB; have HO171 := n0_; have HB := n1_; clear n0_ n1_; clear hg hw hp_))
                      go_loopg [6, 36] k2 (fun kq v6 v36 w' => ∃ (x6_3 : List Bool) (x36_3 : Int), v36 = .int .i64 x36_3 ∧ Aside0 (impl_FoldFits.l1 kq l0 ji8 x6_3 lim x25_2 l0 (l0.length : Int) x36_3 = some r) ∧ Aside0 (kq ≤ k2) ∧ Aside0 (Kd.R Kd.bool 4 w' w.heap.size (fun _ => True) v6 x6_3) ∧ Aside0 (Below w.heap.size w w'))
                      case atStart => exact ⟨(y172), (0), (by first | rfl | (simp; done) | (simp [*]; done)), H', ⟨Nat.le_refl _⟩, ⟨by (with_reducible repeat (first | apply Kd.R_alloc | apply Kd.R_drewN | apply Kd.R_drew)); exact HO171.out⟩, ⟨by repeat (first | (with_reducible first | exact HB.out | apply below_alloc | apply pw_below_drewN | apply below_drew1) | exact HB.out)⟩⟩
                      case round =>
                        clear H'
                        try clear c1
                        try clear p1
                        try clear q1
                        try clear hx1
                        try clear p2
                        try clear c5
                        try clear c6
                        try clear p6
                        try clear c8
                        try clear c9
                        try clear c9b0
                        try clear c11
                        try clear c11b0
                        try clear c11b1
                        try clear c12
                        try clear c12b0
                        try clear c12b1
                        try clear c13
                        try clear c13b0
                        try clear c14
                        try clear c14b0
                        try clear p15
                        try clear q15
                        try clear hx15
                        try clear hf15
                        try clear c16
                        try clear hx15_0
                        try clear p15
                        try clear p2
                        try clear p6
                        try clear q15
                        obtain ⟨x6_3, x36_3, rfl, HA, HK3, HO_6, HB⟩ := hrel
                        cases gk with
                        | zero => exact absurd HA.out (by simp [impl_FoldFits.l1])
                        | succ k3 =>
                          have H := HA.out
                          clear HA
                          simp only [impl_FoldFits.l1] at H
                          by_cases c20 : x36_3 < (l0.length : Int)
                          · rw [if_pos c20] at H
                            have c20b0 : decide (x36_3 < (l0.length : Int)) = true := decide_eq_true c20
                            clear c20
                            by_cases c21 : 0 ≤ x36_3
                            · rw [if_pos c21] at H
                              have c21b0 : decide (0 ≤ x36_3) = true := decide_eq_true c21
                              clear c21
                              by_cases c22 : x36_3 < (l0.length : Int)
                              · rw [if_pos c22] at H
                                have c22b0 : decide (x36_3 < (l0.length : Int)) = true := decide_eq_true c22
                                clear c22
                                replace H : (if 0 ≤ (lim) then (if (lim : Int).toNat ≤ 281474976710656 then (impl_FoldFits.l2 k3 l0 ji8 (rd l0 x36_3) (List.replicate (lim : Int).toNat false) lim x25_2 l0 (l0.length : Int) x36_3 x6_3 (x6_3.length : Int) 0) else (none)) else (none)) = some r := by first | (rw [hlim] at H; exact H) | (simp only [hlim] at H ⊢; exact H)
                                by_cases c24 : 0 ≤ (lim)
                                · rw [if_pos c24] at H
                                  have c24b0 := eq_true c24
                                  have c24b1 : decide (0 ≤ (lim)) = true := decide_eq_true c24
                                  clear c24
                                  by_cases c25 : (lim : Int).toNat ≤ 281474976710656
                                  · rw [if_pos c25] at H
                                    have c25b0 := eq_true c25
                                    have c25b1 : decide ((lim : Int).toNat ≤ 281474976710656) = true := decide_eq_true c25
                                    clear c25
                                    obtain ⟨y175, hy175⟩ : ∃ y_ : List Bool, y_ = (List.replicate (lim : Int).toNat false) := ⟨_, rfl⟩
                                    replace H : (impl_FoldFits.l2 k3 l0 ji8 (rd l0 x36_3) y175 lim x25_2 l0 (l0.length : Int) x36_3 x6_3 (x6_3.length : Int) 0) = some r := by first | (rw [hy175]; with_reducible exact H) | (have H2_ := (Option.bind_some _ _).symm.trans H; rw [hy175]; with_reducible exact H2_) | (have H2_ := (Option.bind_some _ _).symm.trans H; with_reducible exact H2_) | with_reducible exact H | (rw [hy175]; exact H) | exact H
                                    have Ny175 := Aside0.mk hy175
                                    clear hy175
                                    have H' := Aside0.mk H
                                    clear H
                                    have p174 : 0 ≤ (x36_3 : Int) := of_decide_eq_true (by first | (with_reducible assumption) | assumption)
                                    have q174 : x36_3 < (l0.length : Int) := of_decide_eq_true (by first | (with_reducible assumption) | assumption)
                                    obtain ⟨ad174, e174, hx174_0⟩ := Kd.at_int HR0.out x36_3 p174 q174
                                    cases e174
                                    replace hx174_0 := (HB.out.cell (World.block_lt_of_cell? w _ hx174_0)).trans hx174_0
                                    replace p174 := eq_true p174
                                    replace q174 := eq_true q174
                                    go_wp2_with (first | ((with_reducible refine gate_dst (N := 42) rfl ?_); refine Kd.R_make Kd.bool _ 4 rfl (N := 42) rfl 43 _ _ rfl lim rfl rfl Try.underlying43 (.bool false) 1 info4 rfl (by decide) (by omega) false (ok := fun _ => True) (okp := fun _ => True) rfl (fun _ hk => hk) trivial (of_decide_eq_true (by first | (with_reducible assumption) | assumption)) (Nat.le_trans (Nat.mul_le_mul_right _ (of_decide_eq_true (by first | (with_reducible assumption) | assumption) : lim.toNat ≤ 281474976710656)) (by omega)) (Below.refl _ _) (Nat.le_refl _) ?_; intro v176 w26 ho27 hb hg_ hnew_; clear hg_ hnew_; (first | rw [← Ny175.out] at ho27 | (simp only [Int.reduceToNat] at ho27; rw [← Ny175.out] at ho27)); have n0_ := Aside0.mk (Kd.R_elder' (by (with_reducible repeat (first | apply Kd.R_alloc | apply Kd.R_drewN | apply Kd.R_drew)); exact HO_6.out) (Kd.R_base ho27) hb); have n1_ := Aside0.mk (Kd.R_lower (Kd.R_new' ho27 (Kd.R_lt (by (with_reducible repeat (first | apply Kd.R_alloc | apply Kd.R_drewN | apply Kd.R_drew)); exact HO_6.out))) (below_size (by repeat (first | (with_reducible first | exact HB.out | apply below_alloc | apply pw_below_drewN | apply below_drew1) | exact HB.out)))); have n2_ := Aside0.mk (below_step (by repeat (first | (with_reducible first | exact HB.out | apply below_alloc | apply pw_below_drewN | apply below_drew1) | exact HB.out)) hb); clear HO_6; clear HB; have HO_6 := n0_; have HO177 := n1_; have HB := n2_; clear n0_ n1_ n2_; clear hb ho27; obtain ⟨Ao28, co28, eo28⟩ := Kd.R_slice HO_6.out; subst eo28))
                                    go_loopg [45] k3 (fun kq v45 w' => ∃ (x9_4 : List Bool) (x45_4 : Int), v45 = .int .i64 x45_4 ∧ Aside0 (impl_FoldFits.l2 kq l0 ji8 (rd l0 x36_3) x9_4 lim x25_2 l0 (l0.length : Int) x36_3 x6_3 (x6_3.length : Int) x45_4 = some r) ∧ Aside0 (kq ≤ k3) ∧ Aside0 (Kd.R Kd.bool 4 w' w.heap.size (fun k_ => some k_ ≠ ((.slice Ao28 x6_3.length co28) : Value).ownBlock) v176 x9_4) ∧ Aside0 (Kd.R Kd.bool 4 w' w.heap.size (fun k_ => some k_ ≠ (v176 : Value).ownBlock) (.slice Ao28 x6_3.length co28) x6_3) ∧ Aside0 (Below w.heap.size w w'))
                                    case atStart => exact ⟨(y175), (0), (by first | rfl | (simp; done) | (simp [*]; done)), H', ⟨Nat.le_refl _⟩, ⟨by (with_reducible repeat (first | apply Kd.R_alloc | apply Kd.R_drewN | apply Kd.R_drew)); exact Kd.R_mono HO177.out (fun _ hk => hk.2)⟩, ⟨by (with_reducible repeat (first | apply Kd.R_alloc | apply Kd.R_drewN | apply Kd.R_drew)); exact Kd.R_mono HO_6.out (fun _ hk => hk.2)⟩, ⟨by repeat (first | (with_reducible first | exact HB.out | apply below_alloc | apply pw_below_drewN | apply below_drew1) | exact HB.out)⟩⟩
                                    case round =>
                                      clear H'
                                      try clear c1
                                      try clear p1
                                      try clear q1
                                      try clear hx1
                                      try clear c2
                                      try clear p2
                                      try clear c5
                                      try clear c6
                                      try clear p6
                                      try clear c8
                                      try clear c9
                                      try clear c9b0
                                      try clear c11
                                      try clear c11b0
                                      try clear c11b1
                                      try clear c12
                                      try clear c12b0
                                      try clear c12b1
                                      try clear c13
                                      try clear c13b0
                                      try clear c14
                                      try clear c14b0
                                      try clear p15
                                      try clear q15
                                      try clear hx15
                                      try clear hf15
                                      try clear c16
                                      try clear p17
                                      try clear q17
                                      try clear hx17
                                      try clear c20
                                      try clear c20b0
                                      try clear c21
                                      try clear c21b0
                                      try clear c22
                                      try clear c22b0
                                      try clear c24
                                      try clear c24b0
                                      try clear c24b1
                                      try clear c25
                                      try clear c25b0
                                      try clear c25b1
                                      try clear hx15_0
                                      try clear hx174_0
                                      try clear p1
                                      try clear p15
                                      try clear p174
                                      try clear p2
                                      try clear p6
                                      try clear q1
                                      try clear q15
                                      try clear q174
                                      obtain ⟨x9_4, x45_4, rfl, HA, HK4, HO_9, HO_43, HB⟩ := hrel
                                      cases gk with
                                      | zero => exact absurd HA.out (by simp [impl_FoldFits.l2])
                                      | succ k4 =>
                                        have H := HA.out
                                        clear HA
                                        simp only [impl_FoldFits.l2] at H
                                        by_cases c29 : x45_4 < (x6_3.length : Int)
                                        · rw [if_pos c29] at H
                                          have c29b0 : decide (x45_4 < (x6_3.length : Int)) = true := decide_eq_true c29
                                          clear c29
                                          by_cases c30 : 0 ≤ x45_4
                                          · rw [if_pos c30] at H
                                            have c30b0 : decide (0 ≤ x45_4) = true := decide_eq_true c30
                                            clear c30
                                            by_cases c31 : x45_4 < (x6_3.length : Int)
                                            · rw [if_pos c31] at H
                                              have c31b0 : decide (x45_4 < (x6_3.length : Int)) = true := decide_eq_true c31
                                              clear c31
                                              obtain ⟨bis, hbis⟩ : ∃ b_ : Bool, b_ = rdOf false x6_3 x45_4 := ⟨_, rfl⟩
                                              rw [← hbis] at H
                                              have HC32 := Aside0.mk H
                                              clear H
                                              have p178 : 0 ≤ (x45_4 : Int) := of_decide_eq_true (by first | (with_reducible assumption) | assumption)
                                              have q178 : x45_4 < (x6_3.length : Int) := of_decide_eq_true (by first | (with_reducible assumption) | assumption)
                                              obtain ⟨ad178, e178, hx178_0⟩ := Kd.at_bool (Kd.R_reads' HO_43.out).2.2 x45_4 p178 q178
                                              cases e178
                                              rw [← hbis] at hx178_0
                                              clear hbis
                                              replace p178 := eq_true p178
                                              replace q178 := eq_true q178
                                              go_upto_region 16 with (fail)
                                              go_cut [57] (fun v57 wc => ∃ (kq : Nat) (x57_31 : Bool), v57 = .bool x57_31 ∧ Aside0 (impl_FoldFits.j4 kq l0 ji8 (rd l0 x36_3) x9_4 x45_4 bis lim x25_2 l0 (l0.length : Int) x36_3 x6_3 (x6_3.length : Int) x45_4 x57_31 = some r) ∧ Aside0 (kq ≤ k4) ∧ Aside0 (Kd.R Kd.bool 4 wc w.heap.size (fun k_ => some k_ ≠ ((.slice (some ad178) x6_3.length co28) : Value).ownBlock) v176 x9_4) ∧ Aside0 (Kd.R Kd.bool 4 wc w.heap.size (fun k_ => some k_ ≠ (v176 : Value).ownBlock) (.slice (some ad178) x6_3.length co28) x6_3) ∧ Aside0 (Below w.heap.size w wc))
                                              case first =>
                                                have H := HC32.out
                                                clear HC32
                                                replace H : (if bis = true then (impl_FoldFits.j4 k4 l0 ji8 (rd l0 x36_3) x9_4 x45_4 bis lim x25_2 l0 (l0.length : Int) x36_3 x6_3 (x6_3.length : Int) x45_4 (decide ((wrap64 (x45_4 + (rd l0 x36_3))) ≤ ji8))) else (impl_FoldFits.j4 k4 l0 ji8 (rd l0 x36_3) x9_4 x45_4 bis lim x25_2 l0 (l0.length : Int) x36_3 x6_3 (x6_3.length : Int) x45_4 false)) = some r := by exact H
                                                by_cases c34 : bis = true
                                                · subst c34
                                                  have H1 : (impl_FoldFits.j4 k4 l0 ji8 (rd l0 x36_3) x9_4 x45_4 true lim x25_2 l0 (l0.length : Int) x36_3 x6_3 (x6_3.length : Int) x45_4 (decide ((wrap64 (x45_4 + (rd l0 x36_3))) ≤ ji8))) = some r := by rw [if_pos rfl] at H; exact H
                                                  clear H
                                                  have H := H1
                                                  clear H1
                                                  have H' := Aside0.mk H
                                                  clear H
                                                  go_wp2
                                                  go_meet
                                                  case rel => exact ⟨_, (decide ((wrap64 (x45_4 + (rd l0 x36_3))) ≤ ji8)), (by first | rfl | (simp; done) | (simp only [← hji8] <;> (first | rfl | simp)) | (simp [*]; done)), H', ⟨by have := HJ2.out; have := HK2.out; have := HK3.out; have := HK4.out; first | omega | exact Nat.le_refl _⟩, ⟨by (with_reducible repeat (first | apply Kd.R_alloc | apply Kd.R_drewN | apply Kd.R_drew)); exact HO_9.out⟩, ⟨by (with_reducible repeat (first | apply Kd.R_alloc | apply Kd.R_drewN | apply Kd.R_drew)); exact HO_43.out⟩, ⟨by repeat (first | (with_reducible first | exact HB.out | apply below_alloc | apply pw_below_drewN | apply below_drew1) | exact HB.out)⟩⟩
                                                · replace c34 := Bool.eq_false_iff.mpr c34
                                                  subst c34
                                                  have H1 : (impl_FoldFits.j4 k4 l0 ji8 (rd l0 x36_3) x9_4 x45_4 false lim x25_2 l0 (l0.length : Int) x36_3 x6_3 (x6_3.length : Int) x45_4 false) = some r := by rw [if_neg (show ¬ (false = true) by decide)] at H; exact H
                                                  clear H
                                                  have H := H1
                                                  clear H1
                                                  have H' := Aside0.mk H
                                                  clear H
                                                  go_wp2
                                                  go_meet
                                                  case rel => exact ⟨_, (false), (by first | rfl | (simp; done) | (simp [*]; done)), H', ⟨by have := HJ2.out; have := HK2.out; have := HK3.out; have := HK4.out; first | omega | exact Nat.le_refl _⟩, ⟨by (with_reducible repeat (first | apply Kd.R_alloc | apply Kd.R_drewN | apply Kd.R_drew)); exact HO_9.out⟩, ⟨by (with_reducible repeat (first | apply Kd.R_alloc | apply Kd.R_drewN | apply Kd.R_drew)); exact HO_43.out⟩, ⟨by repeat (first | (with_reducible first | exact HB.out | apply below_alloc | apply pw_below_drewN | apply below_drew1) | exact HB.out)⟩⟩
                                              case rest =>
                                                clear HC32
                                                try clear c1
                                                try clear p1
                                                try clear q1
                                                try clear hx1
                                                try clear c2
                                                try clear p2
                                                try clear c3
                                                try clear q3
                                                try clear c5
                                                try clear c6
                                                try clear p6
                                                try clear c8
                                                try clear c9
                                                try clear c9b0
                                                try clear c11
                                                try clear c11b0
                                                try clear c11b1
                                                try clear c12
                                                try clear c12b0
                                                try clear c12b1
                                                try clear c13
                                                try clear c13b0
                                                try clear c14
                                                try clear c14b0
                                                try clear p15
                                                try clear q15
                                                try clear hx15
                                                try clear hf15
                                                try clear c16
                                                try clear p17
                                                try clear q17
                                                try clear hx17
                                                try clear c20
                                                try clear c20b0
                                                try clear c21
                                                try clear c21b0
                                                try clear c22
                                                try clear c22b0
                                                try clear c24
                                                try clear c24b0
                                                try clear c24b1
                                                try clear c25
                                                try clear c25b0
                                                try clear c25b1
                                                try clear c29
                                                try clear c29b0
                                                try clear c30
                                                try clear c30b0
                                                try clear c31
                                                try clear c31b0
                                                try clear q33
                                                try clear c34
                                                try clear hx15_0
                                                try clear hx174_0
                                                try clear hx178_0
                                                try clear p1
                                                try clear p15
                                                try clear p17
                                                try clear p174
                                                try clear p178
                                                try clear p2
                                                try clear p6
                                                try clear q1
                                                try clear q15
                                                try clear q17
                                                try clear q174
                                                try clear q178
                                                obtain ⟨kq, x57_31, rfl, HA, HJ31, HO_9, HO_43, HB⟩ := hcut
                                                cases kq with
                                                | zero => exact absurd HA.out (by simp [impl_FoldFits.j4])
                                                | succ kj31 =>
                                                  have H := HA.out
                                                  clear HA
                                                  simp only [impl_FoldFits.j4] at H
                                                  by_cases c35 : x57_31 = true
                                                  · subst c35
                                                    have H1 : (if 0 ≤ (wrap64 (x45_4 + (rd l0 x36_3))) then (if (wrap64 (x45_4 + (rd l0 x36_3))) < (x9_4.length : Int) then ((some (x9_4.set ((wrap64 (x45_4 + (rd l0 x36_3))) : Int).toNat true : List Bool)).bind fun y179 => (if bis = true then (if (wrap64 (x45_4 - (rd l0 x36_3))) ≥ 0 then (if 0 ≤ (wrap64 (x45_4 - (rd l0 x36_3))) then (if (wrap64 (x45_4 - (rd l0 x36_3))) < (x9_4.length : Int) then (impl_FoldFits.l2 kj31 l0 ji8 (rd l0 x36_3) (y179.set ((wrap64 (x45_4 - (rd l0 x36_3))) : Int).toNat true) lim x25_2 l0 (l0.length : Int) x36_3 x6_3 (x6_3.length : Int) (wrap64 (x45_4 + 1))) else (none)) else (none)) else (impl_FoldFits.l2 kj31 l0 ji8 (rd l0 x36_3) y179 lim x25_2 l0 (l0.length : Int) x36_3 x6_3 (x6_3.length : Int) (wrap64 (x45_4 + 1)))) else (impl_FoldFits.l2 kj31 l0 ji8 (rd l0 x36_3) y179 lim x25_2 l0 (l0.length : Int) x36_3 x6_3 (x6_3.length : Int) (wrap64 (x45_4 + 1))))) else (none)) else (none)) = some r := by rw [if_pos rfl] at H; exact H
                                                    clear H
                                                    have H := H1
                                                    clear H1
                                                    obtain ⟨ji36, hji36⟩ : ∃ j_ : Int, (wrap64 (x45_4 + (rd l0 x36_3))) = j_ := ⟨_, rfl⟩
                                                    replace H : (if 0 ≤ (ji36) then (if (ji36) < (x9_4.length : Int) then ((some (x9_4.set ((ji36) : Int).toNat true : List Bool)).bind fun y179 => (if bis = true then (if (wrap64 (x45_4 - (rd l0 x36_3))) ≥ 0 then (if 0 ≤ (wrap64 (x45_4 - (rd l0 x36_3))) then (if (wrap64 (x45_4 - (rd l0 x36_3))) < (x9_4.length : Int) then (impl_FoldFits.l2 kj31 l0 ji8 (rd l0 x36_3) (y179.set ((wrap64 (x45_4 - (rd l0 x36_3))) : Int).toNat true) lim x25_2 l0 (l0.length : Int) x36_3 x6_3 (x6_3.length : Int) (wrap64 (x45_4 + 1))) else (none)) else (none)) else (impl_FoldFits.l2 kj31 l0 ji8 (rd l0 x36_3) y179 lim x25_2 l0 (l0.length : Int) x36_3 x6_3 (x6_3.length : Int) (wrap64 (x45_4 + 1)))) else (impl_FoldFits.l2 kj31 l0 ji8 (rd l0 x36_3) y179 lim x25_2 l0 (l0.length : Int) x36_3 x6_3 (x6_3.length : Int) (wrap64 (x45_4 + 1))))) else (none)) else (none)) = some r := by first | (rw [hji36] at H; exact H) | (simp only [hji36] at H ⊢; exact H)
                                                    have hji36w : (IntKind.i64.wrap (x45_4 + (rd l0 x36_3))) = ji36 := (i64_w _).trans hji36
                                                    by_cases c37 : 0 ≤ (ji36)
                                                    · rw [if_pos c37] at H
                                                      have c37b0 : decide (0 ≤ (ji36)) = true := decide_eq_true c37
                                                      clear c37
                                                      by_cases c38 : (ji36) < (x9_4.length : Int)
                                                      · rw [if_pos c38] at H
                                                        have c38b0 : decide ((ji36) < (x9_4.length : Int)) = true := decide_eq_true c38
                                                        clear c38
                                                        obtain ⟨y179, hy179⟩ : ∃ y_ : List Bool, y_ = (x9_4.set ((ji36) : Int).toNat true) := ⟨_, rfl⟩
                                                        replace H : (if bis = true then (if (wrap64 (x45_4 - (rd l0 x36_3))) ≥ 0 then (if 0 ≤ (wrap64 (x45_4 - (rd l0 x36_3))) then (if (wrap64 (x45_4 - (rd l0 x36_3))) < (x9_4.length : Int) then (impl_FoldFits.l2 kj31 l0 ji8 (rd l0 x36_3) (y179.set ((wrap64 (x45_4 - (rd l0 x36_3))) : Int).toNat true) lim x25_2 l0 (l0.length : Int) x36_3 x6_3 (x6_3.length : Int) (wrap64 (x45_4 + 1))) else (none)) else (none)) else (impl_FoldFits.l2 kj31 l0 ji8 (rd l0 x36_3) y179 lim x25_2 l0 (l0.length : Int) x36_3 x6_3 (x6_3.length : Int) (wrap64 (x45_4 + 1)))) else (impl_FoldFits.l2 kj31 l0 ji8 (rd l0 x36_3) y179 lim x25_2 l0 (l0.length : Int) x36_3 x6_3 (x6_3.length : Int) (wrap64 (x45_4 + 1)))) = some r := by first | (rw [hy179]; with_reducible exact H) | (have H2_ := (Option.bind_some _ _).symm.trans H; rw [hy179]; with_reducible exact H2_) | (have H2_ := (Option.bind_some _ _).symm.trans H; with_reducible exact H2_) | with_reducible exact H | (rw [hy179]; exact H) | exact H
                                                        have Ny179 := Aside0.mk hy179
                                                        clear hy179
                                                        replace H : (if (bis) = true then (if (wrap64 (x45_4 - (rd l0 x36_3))) ≥ 0 then (if 0 ≤ (wrap64 (x45_4 - (rd l0 x36_3))) then (if (wrap64 (x45_4 - (rd l0 x36_3))) < (x9_4.length : Int) then (impl_FoldFits.l2 kj31 l0 ji8 (rd l0 x36_3) (y179.set ((wrap64 (x45_4 - (rd l0 x36_3))) : Int).toNat true) lim x25_2 l0 (l0.length : Int) x36_3 x6_3 (x6_3.length : Int) (wrap64 (x45_4 + 1))) else (none)) else (none)) else (impl_FoldFits.l2 kj31 l0 ji8 (rd l0 x36_3) y179 lim x25_2 l0 (l0.length : Int) x36_3 x6_3 (x6_3.length : Int) (wrap64 (x45_4 + 1)))) else (impl_FoldFits.l2 kj31 l0 ji8 (rd l0 x36_3) y179 lim x25_2 l0 (l0.length : Int) x36_3 x6_3 (x6_3.length : Int) (wrap64 (x45_4 + 1)))) = some r := by exact H
                                                        by_cases c41 : (bis) = true
                                                        · rw [if_pos c41] at H
                                                          have c41b0 : (bis) = true := c41
                                                          clear c41
                                                          by_cases c42 : (wrap64 (x45_4 - (rd l0 x36_3))) ≥ 0
                                                          · rw [if_pos c42] at H
                                                            have c42b0 : decide (0 ≤ (wrap64 (x45_4 - (rd l0 x36_3)))) = true := decide_eq_true c42
                                                            clear c42
                                                            obtain ⟨ji43, hji43⟩ : ∃ j_ : Int, (wrap64 (x45_4 - (rd l0 x36_3))) = j_ := ⟨_, rfl⟩
                                                            replace H : (if 0 ≤ (ji43) then (if (ji43) < (x9_4.length : Int) then (impl_FoldFits.l2 kj31 l0 ji8 (rd l0 x36_3) (y179.set ((ji43) : Int).toNat true) lim x25_2 l0 (l0.length : Int) x36_3 x6_3 (x6_3.length : Int) (wrap64 (x45_4 + 1))) else (none)) else (none)) = some r := by first | (rw [hji43] at H; exact H) | (simp only [hji43] at H ⊢; exact H)
                                                            (try rw [hji43] at c42b0)
                                                            have hji43w : (IntKind.i64.wrap (x45_4 - (rd l0 x36_3))) = ji43 := (i64_w _).trans hji43
                                                            by_cases c44 : 0 ≤ (ji43)
                                                            · rw [if_pos c44] at H
                                                              have c44b0 : decide (0 ≤ (ji43)) = true := decide_eq_true c44
                                                              clear c44
                                                              by_cases c45 : (ji43) < (x9_4.length : Int)
                                                              · rw [if_pos c45] at H
                                                                have c45b0 : decide ((ji43) < (x9_4.length : Int)) = true := decide_eq_true c45
                                                                clear c45
                                                                obtain ⟨y180, hy180⟩ : ∃ y_ : List Bool, y_ = (y179.set ((ji43) : Int).toNat true) := ⟨_, rfl⟩
                                                                replace H : (impl_FoldFits.l2 kj31 l0 ji8 (rd l0 x36_3) y180 lim x25_2 l0 (l0.length : Int) x36_3 x6_3 (x6_3.length : Int) (wrap64 (x45_4 + 1))) = some r := by first | (rw [hy180]; with_reducible exact H) | (have H2_ := (Option.bind_some _ _).symm.trans H; rw [hy180]; with_reducible exact H2_) | (have H2_ := (Option.bind_some _ _).symm.trans H; with_reducible exact H2_) | with_reducible exact H | (rw [hy180]; exact H) | exact H
                                                                have Ny180 := Aside0.mk hy180
                                                                clear hy180
                                                                have H' := Aside0.mk H
                                                                clear H
                                                                have p39 : 0 ≤ ((ji36) : Int) := of_decide_eq_true (by first | (with_reducible assumption) | assumption)
                                                                have q39 : ((ji36) : Int) < ((x9_4.length : Int) : Int) := of_decide_eq_true (by first | (with_reducible assumption) | assumption)
                                                                obtain ⟨go39, co39, eo39, gb39, gl39, cl39, HG39⟩ := Kd.R_form HO_9.out (by omega)
                                                                (first | cases eo39 | (injection eo39 with ea_ en_ ec_; (first | subst ea_ | (injection ea_ with ea_; subst ea_)); subst ec_; clear en_))
                                                                have GB39 := Aside0.mk gb39
                                                                have GG39 := Aside0.mk HG39
                                                                clear gb39 gl39 HG39
                                                                obtain ⟨hx39_0, hf39_0⟩ := Kd.R_celln false HO_9.out ((ji36) : Int) p39 q39
                                                                replace p39 := eq_true p39
                                                                replace q39 := eq_true q39
                                                                have HP47 := Kd.R_putg HO_9.out ((ji36) : Int) true
                                                                go_wp2_with (first | ((with_reducible refine gate_store (t := 4) (p := 62) rfl ?_); refine store_event (t := 4) (p := 62) (v := ?vo_w48) (w1 := (wc.setCell ⟨go39, ((ji36) : Int).toNat, none⟩ (.bool true))) ?hg ?ho ?hn ?hr ?_; (case ho => rfl); (case hg => rfl); (case hn => rfl); (case hr => first | (go_simp; done) | (go_simp; rfl)); intro w48 hw; have hg : wc.grownBy w48 (some go39) := (by rw [hw]; exact HP47.2); have hp_ : Kd.R Kd.bool 4 w48 w.heap.size (fun k_ => some k_ ≠ (.slice (some ad178) x6_3.length co28 : Value).ownBlock) (.slice (some ⟨go39, 0, none⟩) x9_4.length co39) y179 := (by rw [hw, Ny179.out]; exact HP47.1); clear HP47; have n0_ := Aside0.mk (hp_); have n1_ := Aside0.mk (Kd.R_after (v := (.slice (some ⟨go39, 0, none⟩) x9_4.length co39)) (v1 := (.slice (some ⟨go39, 0, none⟩) x9_4.length co39)) (ok := (fun _ => True)) (by (with_reducible repeat (first | apply Kd.R_alloc | apply Kd.R_drewN | apply Kd.R_drew)); exact Kd.R_mono HO_43.out (fun _ hk => ⟨trivial, hk⟩)) hg (.inl rfl)); have n2_ := Aside0.mk ((by rw [hw]; exact below_set (HB.out) GB39.out : Below w.heap.size w w48)); clear HO_9; clear HO_43; clear HB; have HO_9 := n0_; have HO_43 := n1_; have HB := n2_; clear n0_ n1_ n2_; clear hg hw hp_; have p46 : 0 ≤ ((ji43) : Int) := of_decide_eq_true (by first | (with_reducible assumption) | assumption); have q46 : ((ji43) : Int) < ((x9_4.length : Int) : Int) := of_decide_eq_true (by first | (with_reducible assumption) | assumption); obtain ⟨hx46_0, hf46_0⟩ := Kd.R_celln false HO_9.out ((ji43) : Int) p46 q46; replace p46 := eq_true p46; replace q46 := eq_true q46; obtain ⟨hy49_, hz49_⟩ := Kd.R_celln false HO_9.out ((ji43) : Int) (of_decide_eq_true (by first | (with_reducible assumption) | assumption)) (of_decide_eq_true (by first | (with_reducible assumption) | assumption)); have HP49 := Kd.R_putg HO_9.out ((ji43) : Int) true) | ((with_reducible refine gate_store (t := 4) (p := 74) rfl ?_); refine store_event (t := 4) (p := 74) (v := ?vo_w50) (w1 := (w48.setCell ⟨go39, ((ji43) : Int).toNat, none⟩ (.bool true))) ?hg ?ho ?hn ?hr ?_; (case ho => rfl); (case hg => rfl); (case hn => rfl); (case hr => first | (go_simp; done) | (go_simp; rfl)); intro w50 hw; have hg : w48.grownBy w50 (some go39) := (by rw [hw]; exact HP49.2); have hp_ : Kd.R Kd.bool 4 w50 w.heap.size (fun k_ => some k_ ≠ (.slice (some ad178) x6_3.length co28 : Value).ownBlock) (.slice (some ⟨go39, 0, none⟩) x9_4.length co39) y180 := (by rw [hw, Ny180.out]; exact HP49.1); clear HP49; have n0_ := Aside0.mk (hp_); have n1_ := Aside0.mk (Kd.R_after (v := (.slice (some ⟨go39, 0, none⟩) x9_4.length co39)) (v1 := (.slice (some ⟨go39, 0, none⟩) x9_4.length co39)) (ok := (fun _ => True)) (by (with_reducible repeat (first | apply Kd.R_alloc | apply Kd.R_drewN | apply Kd.R_drew)); exact HO_43.out) hg (.inl rfl)); have n2_ := Aside0.mk ((by rw [hw]; exact below_set (HB.out) GB39.out : Below w.heap.size w w50)); clear HO_9; clear HO_43; clear HB; have HO_9 := n0_; have HO_43 := n1_; have HB := n2_; clear n0_ n1_ n2_; clear hg hw hp_))
                                                                go_roundg kj31
                                                                case measure => have := HJ2.out; have := HK2.out; have := HK3.out; have := HK4.out; have := HJ31.out; omega
                                                                case rel => exact ⟨(y180), (wrap64 (x45_4 + 1)), (by first | rfl | (simp; done) | (simp [*]; done)), H', ⟨by have := HJ2.out; have := HK2.out; have := HK3.out; have := HK4.out; have := HJ31.out; omega⟩, ⟨by (with_reducible repeat (first | apply Kd.R_alloc | apply Kd.R_drewN | apply Kd.R_drew)); exact HO_9.out⟩, ⟨by (with_reducible repeat (first | apply Kd.R_alloc | apply Kd.R_drewN | apply Kd.R_drew)); exact Kd.R_mono HO_43.out (fun _ hk => hk.2)⟩, ⟨by repeat (first | (with_reducible first | exact HB.out | apply below_alloc | apply pw_below_drewN | apply below_drew1) | exact HB.out)⟩⟩
                                                              · rw [if_neg c45] at H
                                                                exact absurd H (by simp)
                                                            · rw [if_neg c44] at H
                                                              exact absurd H (by simp)
                                                          · rw [if_neg c42] at H
                                                            have c42b0 : decide (0 ≤ (wrap64 (x45_4 - (rd l0 x36_3)))) = false := decide_eq_false c42
                                                            clear c42
                                                            have H' := Aside0.mk H
                                                            clear H
                                                            have p39 : 0 ≤ ((ji36) : Int) := of_decide_eq_true (by first | (with_reducible assumption) | assumption)
                                                            have q39 : ((ji36) : Int) < ((x9_4.length : Int) : Int) := of_decide_eq_true (by first | (with_reducible assumption) | assumption)
                                                            obtain ⟨go39, co39, eo39, gb39, gl39, cl39, HG39⟩ := Kd.R_form HO_9.out (by omega)
                                                            (first | cases eo39 | (injection eo39 with ea_ en_ ec_; (first | subst ea_ | (injection ea_ with ea_; subst ea_)); subst ec_; clear en_))
                                                            have GB39 := Aside0.mk gb39
                                                            have GG39 := Aside0.mk HG39
                                                            clear gb39 gl39 HG39
                                                            obtain ⟨hx39_0, hf39_0⟩ := Kd.R_celln false HO_9.out ((ji36) : Int) p39 q39
                                                            replace p39 := eq_true p39
                                                            replace q39 := eq_true q39
                                                            have HP51 := Kd.R_putg HO_9.out ((ji36) : Int) true
                                                            go_wp2_with (first | ((with_reducible refine gate_store (t := 4) (p := 62) rfl ?_); refine store_event (t := 4) (p := 62) (v := ?vo_w52) (w1 := (wc.setCell ⟨go39, ((ji36) : Int).toNat, none⟩ (.bool true))) ?hg ?ho ?hn ?hr ?_; (case ho => rfl); (case hg => rfl); (case hn => rfl); (case hr => first | (go_simp; done) | (go_simp; rfl)); intro w52 hw; have hg : wc.grownBy w52 (some go39) := (by rw [hw]; exact HP51.2); have hp_ : Kd.R Kd.bool 4 w52 w.heap.size (fun k_ => some k_ ≠ (.slice (some ad178) x6_3.length co28 : Value).ownBlock) (.slice (some ⟨go39, 0, none⟩) x9_4.length co39) y179 := (by rw [hw, Ny179.out]; exact HP51.1); clear HP51; have n0_ := Aside0.mk (hp_); have n1_ := Aside0.mk (Kd.R_after (v := (.slice (some ⟨go39, 0, none⟩) x9_4.length co39)) (v1 := (.slice (some ⟨go39, 0, none⟩) x9_4.length co39)) (ok := (fun _ => True)) (by (with_reducible repeat (first | apply Kd.R_alloc | apply Kd.R_drewN | apply Kd.R_drew)); exact Kd.R_mono HO_43.out (fun _ hk => ⟨trivial, hk⟩)) hg (.inl rfl)); have n2_ := Aside0.mk ((by rw [hw]; exact below_set (HB.out) GB39.out : Below w.heap.size w w52)); clear HO_9; clear HO_43; clear HB; have HO_9 := n0_; have HO_43 := n1_; have HB := n2_; clear n0_ n1_ n2_; clear hg hw hp_))
                                                            go_roundg kj31
                                                            case measure => have := HJ2.out; have := HK2.out; have := HK3.out; have := HK4.out; have := HJ31.out; omega
                                                            case rel => exact ⟨(y179), (wrap64 (x45_4 + 1)), (by first | rfl | (simp; done) | (simp [*]; done)), H', ⟨by have := HJ2.out; have := HK2.out; have := HK3.out; have := HK4.out; have := HJ31.out; omega⟩, ⟨by (with_reducible repeat (first | apply Kd.R_alloc | apply Kd.R_drewN | apply Kd.R_drew)); exact HO_9.out⟩, ⟨by (with_reducible repeat (first | apply Kd.R_alloc | apply Kd.R_drewN | apply Kd.R_drew)); exact Kd.R_mono HO_43.out (fun _ hk => hk.2)⟩, ⟨by repeat (first | (with_reducible first | exact HB.out | apply below_alloc | apply pw_below_drewN | apply below_drew1) | exact HB.out)⟩⟩
                                                        · rw [if_neg c41] at H
                                                          have c41b0 : (bis) = false := by simpa using c41
                                                          clear c41
                                                          have H' := Aside0.mk H
                                                          clear H
                                                          have p39 : 0 ≤ ((ji36) : Int) := of_decide_eq_true (by first | (with_reducible assumption) | assumption)
                                                          have q39 : ((ji36) : Int) < ((x9_4.length : Int) : Int) := of_decide_eq_true (by first | (with_reducible assumption) | assumption)
                                                          obtain ⟨go39, co39, eo39, gb39, gl39, cl39, HG39⟩ := Kd.R_form HO_9.out (by omega)
                                                          (first | cases eo39 | (injection eo39 with ea_ en_ ec_; (first | subst ea_ | (injection ea_ with ea_; subst ea_)); subst ec_; clear en_))
                                                          have GB39 := Aside0.mk gb39
                                                          have GG39 := Aside0.mk HG39
                                                          clear gb39 gl39 HG39
                                                          obtain ⟨hx39_0, hf39_0⟩ := Kd.R_celln false HO_9.out ((ji36) : Int) p39 q39
                                                          replace p39 := eq_true p39
                                                          replace q39 := eq_true q39
                                                          have HP53 := Kd.R_putg HO_9.out ((ji36) : Int) true
                                                          go_wp2_with (first | ((with_reducible refine gate_store (t := 4) (p := 62) rfl ?_); refine store_event (t := 4) (p := 62) (v := ?vo_w54) (w1 := (wc.setCell ⟨go39, ((ji36) : Int).toNat, none⟩ (.bool true))) ?hg ?ho ?hn ?hr ?_; (case ho => rfl); (case hg => rfl); (case hn => rfl); (case hr => first | (go_simp; done) | (go_simp; rfl)); intro w54 hw; have hg : wc.grownBy w54 (some go39) := (by rw [hw]; exact HP53.2); have hp_ : Kd.R Kd.bool 4 w54 w.heap.size (fun k_ => some k_ ≠ (.slice (some ad178) x6_3.length co28 : Value).ownBlock) (.slice (some ⟨go39, 0, none⟩) x9_4.length co39) y179 := (by rw [hw, Ny179.out]; exact HP53.1); clear HP53; have n0_ := Aside0.mk (hp_); have n1_ := Aside0.mk (Kd.R_after (v := (.slice (some ⟨go39, 0, none⟩) x9_4.length co39)) (v1 := (.slice (some ⟨go39, 0, none⟩) x9_4.length co39)) (ok := (fun _ => True)) (by (with_reducible repeat (first | apply Kd.R_alloc | apply Kd.R_drewN | apply Kd.R_drew)); exact Kd.R_mono HO_43.out (fun _ hk => ⟨trivial, hk⟩)) hg (.inl rfl)); have n2_ := Aside0.mk ((by rw [hw]; exact below_set (HB.out) GB39.out : Below w.heap.size w w54)); clear HO_9; clear HO_43; clear HB; have HO_9 := n0_; have HO_43 := n1_; have HB := n2_; clear n0_ n1_ n2_; clear hg hw hp_))
                                                          go_roundg kj31
                                                          case measure => have := HJ2.out; have := HK2.out; have := HK3.out; have := HK4.out; have := HJ31.out; omega
                                                          case rel => exact ⟨(y179), (wrap64 (x45_4 + 1)), (by first | rfl | (simp; done) | (simp [*]; done)), H', ⟨by have := HJ2.out; have := HK2.out; have := HK3.out; have := HK4.out; have := HJ31.out; omega⟩, ⟨by (with_reducible repeat (first | apply Kd.R_alloc | apply Kd.R_drewN | apply Kd.R_drew)); exact HO_9.out⟩, ⟨by (with_reducible repeat (first | apply Kd.R_alloc | apply Kd.R_drewN | apply Kd.R_drew)); exact Kd.R_mono HO_43.out (fun _ hk => hk.2)⟩, ⟨by repeat (first | (with_reducible first | exact HB.out | apply below_alloc | apply pw_below_drewN | apply below_drew1) | exact HB.out)⟩⟩
                                                      · rw [if_neg c38] at H
                                                        exact absurd H (by simp)
                                                    · rw [if_neg c37] at H
                                                      exact absurd H (by simp)
                                                  · replace c35 := Bool.eq_false_iff.mpr c35
                                                    subst c35
                                                    have H1 : (if bis = true then (if (wrap64 (x45_4 - (rd l0 x36_3))) ≥ 0 then (if 0 ≤ (wrap64 (x45_4 - (rd l0 x36_3))) then (if (wrap64 (x45_4 - (rd l0 x36_3))) < (x9_4.length : Int) then (impl_FoldFits.l2 kj31 l0 ji8 (rd l0 x36_3) (x9_4.set ((wrap64 (x45_4 - (rd l0 x36_3))) : Int).toNat true) lim x25_2 l0 (l0.length : Int) x36_3 x6_3 (x6_3.length : Int) (wrap64 (x45_4 + 1))) else (none)) else (none)) else (impl_FoldFits.l2 kj31 l0 ji8 (rd l0 x36_3) x9_4 lim x25_2 l0 (l0.length : Int) x36_3 x6_3 (x6_3.length : Int) (wrap64 (x45_4 + 1)))) else (impl_FoldFits.l2 kj31 l0 ji8 (rd l0 x36_3) x9_4 lim x25_2 l0 (l0.length : Int) x36_3 x6_3 (x6_3.length : Int) (wrap64 (x45_4 + 1)))) = some r := by rw [if_neg (show ¬ (false = true) by decide)] at H; exact H
                                                    clear H
                                                    have H := H1
                                                    clear H1
                                                    replace H : (if (bis) = true then (if (wrap64 (x45_4 - (rd l0 x36_3))) ≥ 0 then (if 0 ≤ (wrap64 (x45_4 - (rd l0 x36_3))) then (if (wrap64 (x45_4 - (rd l0 x36_3))) < (x9_4.length : Int) then (impl_FoldFits.l2 kj31 l0 ji8 (rd l0 x36_3) (x9_4.set ((wrap64 (x45_4 - (rd l0 x36_3))) : Int).toNat true) lim x25_2 l0 (l0.length : Int) x36_3 x6_3 (x6_3.length : Int) (wrap64 (x45_4 + 1))) else (none)) else (none)) else (impl_FoldFits.l2 kj31 l0 ji8 (rd l0 x36_3) x9_4 lim x25_2 l0 (l0.length : Int) x36_3 x6_3 (x6_3.length : Int) (wrap64 (x45_4 + 1)))) else (impl_FoldFits.l2 kj31 l0 ji8 (rd l0 x36_3) x9_4 lim x25_2 l0 (l0.length : Int) x36_3 x6_3 (x6_3.length : Int) (wrap64 (x45_4 + 1)))) = some r := by exact H
                                                    by_cases c56 : (bis) = true
                                                    · rw [if_pos c56] at H
                                                      have c56b0 : (bis) = true := c56
                                                      clear c56
                                                      by_cases c57 : (wrap64 (x45_4 - (rd l0 x36_3))) ≥ 0
                                                      · rw [if_pos c57] at H
                                                        have c57b0 : decide (0 ≤ (wrap64 (x45_4 - (rd l0 x36_3)))) = true := decide_eq_true c57
                                                        clear c57
                                                        obtain ⟨ji58, hji58⟩ : ∃ j_ : Int, (wrap64 (x45_4 - (rd l0 x36_3))) = j_ := ⟨_, rfl⟩
                                                        replace H : (if 0 ≤ (ji58) then (if (ji58) < (x9_4.length : Int) then (impl_FoldFits.l2 kj31 l0 ji8 (rd l0 x36_3) (x9_4.set ((ji58) : Int).toNat true) lim x25_2 l0 (l0.length : Int) x36_3 x6_3 (x6_3.length : Int) (wrap64 (x45_4 + 1))) else (none)) else (none)) = some r := by first | (rw [hji58] at H; exact H) | (simp only [hji58] at H ⊢; exact H)
                                                        (try rw [hji58] at c57b0)
                                                        have hji58w : (IntKind.i64.wrap (x45_4 - (rd l0 x36_3))) = ji58 := (i64_w _).trans hji58
                                                        by_cases c59 : 0 ≤ (ji58)
                                                        · rw [if_pos c59] at H
                                                          have c59b0 : decide (0 ≤ (ji58)) = true := decide_eq_true c59
                                                          clear c59
                                                          by_cases c60 : (ji58) < (x9_4.length : Int)
                                                          · rw [if_pos c60] at H
                                                            have c60b0 : decide ((ji58) < (x9_4.length : Int)) = true := decide_eq_true c60
                                                            clear c60
                                                            obtain ⟨y181, hy181⟩ : ∃ y_ : List Bool, y_ = (x9_4.set ((ji58) : Int).toNat true) := ⟨_, rfl⟩
                                                            replace H : (impl_FoldFits.l2 kj31 l0 ji8 (rd l0 x36_3) y181 lim x25_2 l0 (l0.length : Int) x36_3 x6_3 (x6_3.length : Int) (wrap64 (x45_4 + 1))) = some r := by first | (rw [hy181]; with_reducible exact H) | (have H2_ := (Option.bind_some _ _).symm.trans H; rw [hy181]; with_reducible exact H2_) | (have H2_ := (Option.bind_some _ _).symm.trans H; with_reducible exact H2_) | with_reducible exact H | (rw [hy181]; exact H) | exact H
                                                            have Ny181 := Aside0.mk hy181
                                                            clear hy181
                                                            have H' := Aside0.mk H
                                                            clear H
                                                            have p61 : 0 ≤ ((ji58) : Int) := of_decide_eq_true (by first | (with_reducible assumption) | assumption)
                                                            have q61 : ((ji58) : Int) < ((x9_4.length : Int) : Int) := of_decide_eq_true (by first | (with_reducible assumption) | assumption)
                                                            obtain ⟨go61, co61, eo61, gb61, gl61, cl61, HG61⟩ := Kd.R_form HO_9.out (by omega)
                                                            (first | cases eo61 | (injection eo61 with ea_ en_ ec_; (first | subst ea_ | (injection ea_ with ea_; subst ea_)); subst ec_; clear en_))
                                                            have GB61 := Aside0.mk gb61
                                                            have GG61 := Aside0.mk HG61
                                                            clear gb61 gl61 HG61
                                                            obtain ⟨hx61_0, hf61_0⟩ := Kd.R_celln false HO_9.out ((ji58) : Int) p61 q61
                                                            replace p61 := eq_true p61
                                                            replace q61 := eq_true q61
                                                            have HP62 := Kd.R_putg HO_9.out ((ji58) : Int) true
                                                            go_wp2_with (first | ((with_reducible refine gate_store (t := 4) (p := 74) rfl ?_); refine store_event (t := 4) (p := 74) (v := ?vo_w63) (w1 := (wc.setCell ⟨go61, ((ji58) : Int).toNat, none⟩ (.bool true))) ?hg ?ho ?hn ?hr ?_; (case ho => rfl); (case hg => rfl); (case hn => rfl); (case hr => first | (go_simp; done) | (go_simp; rfl)); intro w63 hw; have hg : wc.grownBy w63 (some go61) := (by rw [hw]; exact HP62.2); have hp_ : Kd.R Kd.bool 4 w63 w.heap.size (fun k_ => some k_ ≠ (.slice (some ad178) x6_3.length co28 : Value).ownBlock) (.slice (some ⟨go61, 0, none⟩) x9_4.length co61) y181 := (by rw [hw, Ny181.out]; exact HP62.1); clear HP62; have n0_ := Aside0.mk (hp_); have n1_ := Aside0.mk (Kd.R_after (v := (.slice (some ⟨go61, 0, none⟩) x9_4.length co61)) (v1 := (.slice (some ⟨go61, 0, none⟩) x9_4.length co61)) (ok := (fun _ => True)) (by (with_reducible repeat (first | apply Kd.R_alloc | apply Kd.R_drewN | apply Kd.R_drew)); exact Kd.R_mono HO_43.out (fun _ hk => ⟨trivial, hk⟩)) hg (.inl rfl)); have n2_ := Aside0.mk ((by rw [hw]; exact below_set (HB.out) GB61.out : Below w.heap.size w w63)); clear HO_9; clear HO_43; clear HB; have HO_9 := n0_; have HO_43 := n1_; have HB := n2_; clear n0_ n1_ n2_; clear hg hw hp_))
                                                            go_roundg kj31
                                                            case measure => have := HJ2.out; have := HK2.out; have := HK3.out; have := HK4.out; have := HJ31.out; omega
                                                            case rel => exact ⟨(y181), (wrap64 (x45_4 + 1)), (by first | rfl | (simp; done) | (simp [*]; done)), H', ⟨by have := HJ2.out; have := HK2.out; have := HK3.out; have := HK4.out; have := HJ31.out; omega⟩, ⟨by (with_reducible repeat (first | apply Kd.R_alloc | apply Kd.R_drewN | apply Kd.R_drew)); exact HO_9.out⟩, ⟨by (with_reducible repeat (first | apply Kd.R_alloc | apply Kd.R_drewN | apply Kd.R_drew)); exact Kd.R_mono HO_43.out (fun _ hk => hk.2)⟩, ⟨by repeat (first | (with_reducible first | exact HB.out | apply below_alloc | apply pw_below_drewN | apply below_drew1) | exact HB.out)⟩⟩
                                                          · rw [if_neg c60] at H
                                                            exact absurd H (by simp)
                                                        · rw [if_neg c59] at H
                                                          exact absurd H (by simp)
                                                      · rw [if_neg c57] at H
                                                        have c57b0 : decide (0 ≤ (wrap64 (x45_4 - (rd l0 x36_3)))) = false := decide_eq_false c57
                                                        clear c57
                                                        have H' := Aside0.mk H
                                                        clear H
                                                        go_wp2
                                                        go_roundg kj31
                                                        case measure => have := HJ2.out; have := HK2.out; have := HK3.out; have := HK4.out; have := HJ31.out; omega
                                                        case rel => exact ⟨(x9_4), (wrap64 (x45_4 + 1)), (by first | rfl | (simp; done) | (simp [*]; done)), H', ⟨by have := HJ2.out; have := HK2.out; have := HK3.out; have := HK4.out; have := HJ31.out; omega⟩, ⟨by (with_reducible repeat (first | apply Kd.R_alloc | apply Kd.R_drewN | apply Kd.R_drew)); exact HO_9.out⟩, ⟨by (with_reducible repeat (first | apply Kd.R_alloc | apply Kd.R_drewN | apply Kd.R_drew)); exact HO_43.out⟩, ⟨by repeat (first | (with_reducible first | exact HB.out | apply below_alloc | apply pw_below_drewN | apply below_drew1) | exact HB.out)⟩⟩
                                                    · rw [if_neg c56] at H
                                                      have c56b0 : (bis) = false := by simpa using c56
                                                      clear c56
                                                      have H' := Aside0.mk H
                                                      clear H
                                                      go_wp2
                                                      go_roundg kj31
                                                      case measure => have := HJ2.out; have := HK2.out; have := HK3.out; have := HK4.out; have := HJ31.out; omega
                                                      case rel => exact ⟨(x9_4), (wrap64 (x45_4 + 1)), (by first | rfl | (simp; done) | (simp [*]; done)), H', ⟨by have := HJ2.out; have := HK2.out; have := HK3.out; have := HK4.out; have := HJ31.out; omega⟩, ⟨by (with_reducible repeat (first | apply Kd.R_alloc | apply Kd.R_drewN | apply Kd.R_drew)); exact HO_9.out⟩, ⟨by (with_reducible repeat (first | apply Kd.R_alloc | apply Kd.R_drewN | apply Kd.R_drew)); exact HO_43.out⟩, ⟨by repeat (first | (with_reducible first | exact HB.out | apply below_alloc | apply pw_below_drewN | apply below_drew1) | exact HB.out)⟩⟩
                                            · rw [if_neg c31] at H
                                              exact absurd H (by simp)
                                          · rw [if_neg c30] at H
                                            exact absurd H (by simp)
                                        · rw [if_neg c29] at H
                                          have c29b0 : decide (x45_4 < (x6_3.length : Int)) = false := decide_eq_false c29
                                          clear c29
                                          have H' := Aside0.mk H
                                          clear H
                                          go_wp2
                                          go_roundg k4
                                          case measure => have := HJ2.out; have := HK2.out; have := HK3.out; have := HK4.out; omega
                                          case rel => exact ⟨(x9_4), (wrap64 (x36_3 + 1)), (by first | rfl | (simp; done) | (simp [*]; done)), H', ⟨by have := HJ2.out; have := HK2.out; have := HK3.out; have := HK4.out; omega⟩, ⟨by (with_reducible repeat (first | apply Kd.R_alloc | apply Kd.R_drewN | apply Kd.R_drew)); exact Kd.R_mono HO_9.out (fun _ hk => trivial)⟩, ⟨by repeat (first | (with_reducible first | exact HB.out | apply below_alloc | apply pw_below_drewN | apply below_drew1) | exact HB.out)⟩⟩
                                  · rw [if_neg c25] at H
                                    exact absurd H (by simp)
                                · rw [if_neg c24] at H
                                  exact absurd H (by simp)
                              · rw [if_neg c22] at H
                                exact absurd H (by simp)
                            · rw [if_neg c21] at H
                              exact absurd H (by simp)
                          · rw [if_neg c20] at H
                            have c20b0 : decide (x36_3 < (l0.length : Int)) = false := decide_eq_false c20
                            clear c20
                            replace H := Option.bind_eq_some_iff.mp H
                            obtain ⟨t173, A640, H⟩ := H
                            replace H : (if t173 = true then (some true) else (impl_FoldFits.l0 k3 l0 ji8 lim (wrap64 (x25_2 + 1)))) = some r := H
                            have A64 := Aside0.mk A640
                            clear A640
                            by_cases c65 : t173 = true
                            · subst c65
                              have H1 : (some true) = some r := by rw [if_pos rfl] at H; exact H
                              clear H
                              have H := H1
                              clear H1
                              obtain rfl := Option.some.inj H
                              obtain ⟨Ao66, co66, eo66⟩ := Kd.R_slice HO_6.out
                              subst eo66
                              go_wp2_with (first | ((with_reducible refine gate_callee (f := 19) rfl ?_); refine goesL_ (some 79) rfl rfl Try.func19 (by kernel_rfl) rfl #[.slice Ao66 x6_3.length co66, .bool true] rfl (by (try simp only [List.map_toArray, List.map_cons, List.map_nil]); first | done | rfl | (simp only [List.length_drop, List.length_take]; rfl)) ?_; (with_reducible refine (slices_Contains_bool_bool.calls k3 _ _ x6_3 true true _ ?side1 ?side2 A64.out).mono ?_); (case side1 => repeat (first | exact (Kd.R_reads' HO_6.out).2.2 | (with_reducible refine Kd.C_alloc ?_ _) | (with_reducible refine Kd.C_drewN ?_ _) | (with_reducible refine Kd.C_drew ?_))); (case side2 => exact (Kd.R_reads' HO_6.out).2.1); rintro e w' ⟨rfl, ⟨nd, rfl⟩⟩; refine ⟨_, rfl, ?_⟩))
                              go_ret
                              exact ⟨by first | rfl | (simp [errW_none, errW_some] <;> rfl) | (simp only [← hji8, ← hlim]; first | rfl | (simp [errW_none, errW_some] <;> rfl)) | (simp [*, errW_none, errW_some] <;> rfl) | (exfalso; simp_all; done), by repeat (first | (with_reducible first | exact HB.out | apply below_alloc | apply pw_below_drewN | apply below_drew1) | exact HB.out)⟩
                            · replace c65 := Bool.eq_false_iff.mpr c65
                              subst c65
                              have H1 : (impl_FoldFits.l0 k3 l0 ji8 lim (wrap64 (x25_2 + 1))) = some r := by rw [if_neg (show ¬ (false = true) by decide)] at H; exact H
                              clear H
                              have H := H1
                              clear H1
                              have H' := Aside0.mk H
                              clear H
                              obtain ⟨Ao67, co67, eo67⟩ := Kd.R_slice HO_6.out
                              subst eo67
                              go_wp2_with (first | ((with_reducible refine gate_callee (f := 19) rfl ?_); refine goesL_ (some 79) rfl rfl Try.func19 (by kernel_rfl) rfl #[.slice Ao67 x6_3.length co67, .bool true] rfl (by (try simp only [List.map_toArray, List.map_cons, List.map_nil]); first | done | rfl | (simp only [List.length_drop, List.length_take]; rfl)) ?_; (with_reducible refine (slices_Contains_bool_bool.calls k3 _ _ x6_3 true false _ ?side1 ?side2 A64.out).mono ?_); (case side1 => repeat (first | exact (Kd.R_reads' HO_6.out).2.2 | (with_reducible refine Kd.C_alloc ?_ _) | (with_reducible refine Kd.C_drewN ?_ _) | (with_reducible refine Kd.C_drew ?_))); (case side2 => exact (Kd.R_reads' HO_6.out).2.1); rintro e w' ⟨rfl, ⟨nd, rfl⟩⟩; refine ⟨_, rfl, ?_⟩))
                              go_roundg k3
                              case measure => have := HJ2.out; have := HK2.out; have := HK3.out; omega
                              case rel => exact ⟨(wrap64 (x25_2 + 1)), (by first | rfl | (simp; done) | (simp [*]; done)), H', ⟨by have := HJ2.out; have := HK2.out; have := HK3.out; omega⟩, ⟨by repeat (first | (with_reducible first | exact HB.out | apply below_alloc | apply pw_below_drewN | apply below_drew1) | exact HB.out)⟩⟩
                    · rw [if_neg c14] at H
                      exact absurd H (by simp)
                  · rw [if_neg c13] at H
                    exact absurd H (by simp)
                · rw [if_neg c12] at H
                  exact absurd H (by simp)
              · rw [if_neg c11] at H
                exact absurd H (by simp)
            · rw [if_neg c9] at H
              have c9b0 : decide (x25_2 < lim) = false := decide_eq_false c9
              clear c9
              obtain rfl := Option.some.inj H
              go_wp2
              go_ret
              exact ⟨by first | rfl | (simp [errW_none, errW_some] <;> rfl) | (simp only [← hji8]; first | rfl | (simp [errW_none, errW_some] <;> rfl)) | (simp [*, errW_none, errW_some] <;> rfl) | (exfalso; simp_all; done), by repeat (first | (with_reducible first | exact HB.out | apply below_alloc | apply pw_below_drewN | apply below_drew1) | exact HB.out)⟩

end Go.Proofs.Ytadidiebamoljaa.PFnSpanIs
