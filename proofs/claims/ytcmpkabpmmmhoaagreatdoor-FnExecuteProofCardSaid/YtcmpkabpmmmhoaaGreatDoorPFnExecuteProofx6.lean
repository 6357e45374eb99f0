/- Written by a program of this claim out of the translation: plain Lean functions and their contracts; what is proved: each Go function of this text comes to what its Lean function says. -/
import Derived.Test.YtcmpkabpmmmhoaaGreatDoorPFnExecuteProofx0
import Derived.Test.YtcmpkabpmmmhoaaGreatDoorPFnExecuteProofx3
import Derived.Test.YtcmpkabpmmmhoaaGreatDoorPFnExecuteProofx4
import Derived.Test.YtcmpkabpmmmhoaaGreatDoorPFnExecuteProofx5
namespace Go.Proofs.YtcmpkabpmmmhoaaGreatDoor.PFnExecuteProof
open Go.RowKit Go.Proofs.YtcmpkabpmmmhoaaGreatDoorW.PrintWords Go.Proofs.YtcmpkabpmmmhoaaGreatDoorW.PrintLast Go.Proofs.YtcmpkabpmmmhoaaGreatDoorW.PrintMore
attribute [local go_sem] max2_int min2_int max_two min_two max_three min_three max_four min_four   -- for this text's walks alone
set_option linter.unusedVariables false
set_option linter.unusedSimpArgs false

/-! ### impl_readNumbers: function 66 -/
mutual
def impl_readNumbers.l0 : Nat → List Int → List ByteArray → Int → Int → Option (List Int × Bool)
  | 0, _, _, _, _ => none
  | k + 1, x4, x11, x12, x13 => if x13 < x12 then (if 0 ≤ x13 then (if x13 < (x11.length : Int) then (if ((rdOf ByteArray.empty x11 x13).size : Int) < 1 then (impl_readNumbers.j1 k x4 (rdOf ByteArray.empty x11 x13) x11 x12 x13 true) else (impl_readNumbers.j1 k x4 (rdOf ByteArray.empty x11 x13) x11 x12 x13 (decide (((rdOf ByteArray.empty x11 x13).size : Int) > 3)))) else (none)) else (none)) else (some (x4, true))
def impl_readNumbers.j1 : Nat → List Int → ByteArray → List ByteArray → Int → Int → Bool → Option (List Int × Bool)
  | 0, _, _, _, _, _, _ => none
  | k + 1, x4, x6, x11, x12, x13, x24 => if x24 = true then (some (([] : List Int), false)) else (impl_readNumbers.l1 k x4 x6 0 x11 x12 x13 (x6.size : Int) 0)
def impl_readNumbers.l1 : Nat → List Int → ByteArray → Int → List ByteArray → Int → Int → Int → Int → Option (List Int × Bool)
  | 0, _, _, _, _, _, _, _, _ => none
  | k + 1, x4, x6, x7, x11, x12, x13, x26, x27 => if x27 < x26 then (if 0 ≤ x27 then (if x27 < (x6.size : Int) then (if (bt x6 x27) < 48 then (some (([] : List Int), false)) else (if (bt x6 x27) > 57 then (some (([] : List Int), false)) else (impl_readNumbers.l1 k x4 x6 (wrap64 ((wrap64 (x7 * 10)) + (((bt x6 x27) - 48) % 256))) x11 x12 x13 x26 (wrap64 (x27 + 1))))) else (none)) else (none)) else (if x4.length < 17592186044416 then (impl_readNumbers.l0 k (x4 ++ [x7]) x11 x12 (wrap64 (x13 + 1))) else (none))
end
def impl_readNumbers.f (k : Nat) (a0 : ByteArray) : Option (List Int × Bool) := (strings_Split.f a0 (⟨#[32]⟩ : ByteArray)).bind fun t191 => (impl_readNumbers.l0 k (([] : List Int)) t191 (t191.length : Int) 0)
theorem impl_readNumbers.mono_l : ∀ k, (∀ y0 y1 y2 y3, LeO (impl_readNumbers.l0 k y0 y1 y2 y3) (impl_readNumbers.l0 (k + 1) y0 y1 y2 y3)) ∧ (∀ y0 y1 y2 y3 y4 y5, LeO (impl_readNumbers.j1 k y0 y1 y2 y3 y4 y5) (impl_readNumbers.j1 (k + 1) y0 y1 y2 y3 y4 y5)) ∧ (∀ y0 y1 y2 y3 y4 y5 y6 y7, LeO (impl_readNumbers.l1 k y0 y1 y2 y3 y4 y5 y6 y7) (impl_readNumbers.l1 (k + 1) y0 y1 y2 y3 y4 y5 y6 y7))
  | 0 => ⟨fun _ _ _ _ r h => by simp [impl_readNumbers.l0] at h, fun _ _ _ _ _ _ r h => by simp [impl_readNumbers.j1] at h, fun _ _ _ _ _ _ _ _ r h => by simp [impl_readNumbers.l1] at h⟩
  | k + 1 => by
    obtain ⟨ih0, ih1, ih2⟩ := impl_readNumbers.mono_l k
    refine ⟨?_, ?_, ?_⟩
    · intro y0 y1 y2 y3
      unfold impl_readNumbers.l0
      repeat' first
      | (with_reducible exact ih0 _ _ _ _)
      | (with_reducible exact ih1 _ _ _ _ _ _)
      | (with_reducible exact ih2 _ _ _ _ _ _ _ _)
      | (with_reducible exact LeO.refl _)
      | (with_reducible exact LeO.none _)
      | (with_reducible refine LeO.ite ?_ ?_)
      | (with_reducible refine LeO.bind ?_ (fun _ => ?_))
      | exact ih0 _ _ _ _
      | exact ih1 _ _ _ _ _ _
      | exact ih2 _ _ _ _ _ _ _ _
      | exact LeO.none _
      | refine LeO.ite ?_ ?_
      | refine LeO.bind ?_ (fun _ => ?_)
    · intro y0 y1 y2 y3 y4 y5
      unfold impl_readNumbers.j1
      repeat' first
      | (with_reducible exact ih0 _ _ _ _)
      | (with_reducible exact ih1 _ _ _ _ _ _)
      | (with_reducible exact ih2 _ _ _ _ _ _ _ _)
      | (with_reducible exact LeO.refl _)
      | (with_reducible exact LeO.none _)
      | (with_reducible refine LeO.ite ?_ ?_)
      | (with_reducible refine LeO.bind ?_ (fun _ => ?_))
      | exact ih0 _ _ _ _
      | exact ih1 _ _ _ _ _ _
      | exact ih2 _ _ _ _ _ _ _ _
      | exact LeO.none _
      | refine LeO.ite ?_ ?_
      | refine LeO.bind ?_ (fun _ => ?_)
    · intro y0 y1 y2 y3 y4 y5 y6 y7
      unfold impl_readNumbers.l1
      repeat' first
      | (with_reducible exact ih0 _ _ _ _)
      | (with_reducible exact ih1 _ _ _ _ _ _)
      | (with_reducible exact ih2 _ _ _ _ _ _ _ _)
      | (with_reducible exact LeO.refl _)
      | (with_reducible exact LeO.none _)
      | (with_reducible refine LeO.ite ?_ ?_)
      | (with_reducible refine LeO.bind ?_ (fun _ => ?_))
      | exact ih0 _ _ _ _
      | exact ih1 _ _ _ _ _ _
      | exact ih2 _ _ _ _ _ _ _ _
      | exact LeO.none _
      | refine LeO.ite ?_ ?_
      | refine LeO.bind ?_ (fun _ => ?_)
theorem impl_readNumbers.mono : ∀ a0 k, LeO (impl_readNumbers.f k a0) (impl_readNumbers.f (k + 1) a0) := by
  intro a0 k
  obtain ⟨ih0, ih1, ih2⟩ := impl_readNumbers.mono_l k
  unfold impl_readNumbers.f
  repeat' first
      | (with_reducible exact ih0 _ _ _ _)
      | (with_reducible exact ih1 _ _ _ _ _ _)
      | (with_reducible exact ih2 _ _ _ _ _ _ _ _)
      | (with_reducible exact LeO.refl _)
      | (with_reducible exact LeO.none _)
      | (with_reducible refine LeO.ite ?_ ?_)
      | (with_reducible refine LeO.bind ?_ (fun _ => ?_))
      | exact ih0 _ _ _ _
      | exact ih1 _ _ _ _ _ _
      | exact ih2 _ _ _ _ _ _ _ _
      | exact LeO.none _
      | refine LeO.ite ?_ ?_
      | refine LeO.bind ?_ (fun _ => ?_)
set_option maxHeartbeats 8000000 in
set_option maxRecDepth 100000 in
theorem impl_readNumbers.calls (k : Nat) (a0 : ByteArray) (r1 : List Int) (r2 : Bool) (w : World) (h : impl_readNumbers.f k a0 = some (r1, r2)) :
    Calls Tryz.prog 66 #[.string a0] w fun e w' => ∃ v0_ : Value, e = .returned (.tuple #[v0_, .bool r2]) ∧ Kd.R (Kd.int .i64) 3 w' w.heap.size (fun _ => True) v0_ r1 ∧ Below w.heap.size w w' := by
  have HB := Aside0.mk (Below.refl w.heap.size w)
  have H : ((strings_Split.f a0 (⟨#[32]⟩ : ByteArray)).bind fun t191 => (impl_readNumbers.l0 k (([] : List Int)) t191 (t191.length : Int) 0)) = some (r1, r2) := h
  clear h
  obtain ⟨y188, hy188⟩ : ∃ y_ : List Int, y_ = (([] : List Int)) := ⟨_, rfl⟩
  replace H : ((strings_Split.f a0 (⟨#[32]⟩ : ByteArray)).bind fun t191 => (impl_readNumbers.l0 k y188 t191 (t191.length : Int) 0)) = some (r1, r2) := by first | (rw [hy188]; with_reducible exact H) | (have H2_ := (Option.bind_some _ _).symm.trans H; rw [hy188]; with_reducible exact H2_) | (have H2_ := (Option.bind_some _ _).symm.trans H; with_reducible exact H2_) | with_reducible exact H | (rw [hy188]; exact H) | exact H
  have Ny188 := Aside0.mk hy188
  clear hy188
  replace H := Option.bind_eq_some_iff.mp H
  obtain ⟨t191, A20, H⟩ := H
  replace H : (impl_readNumbers.l0 k y188 t191 (t191.length : Int) 0) = some (r1, r2) := H
  have A2 := Aside0.mk A20
  clear A20
  have H' := Aside0.mk H
  clear H
  go_enter Tryz.func66, Tryz.ntmps66
  go_wp2_with (first | ((with_reducible refine gate_dst (N := 9) rfl ?_); (try (refine gate_guard (by rfl) ?_; dsimp only)); refine Kd.R_lit (Kd.int .i64) _ 3 ?hg (N := 9) ?hd (xs := ([] : List Int)) (inner := []) (ok := fun _ => True) (okp := fun _ => True) ?hr ?hp (fun _ hk => hk) trivial (Below.refl _ _) (Nat.le_refl _) (by simp) ?_; (case hd => rfl); (case hg => rfl); (case hr => first | (go_simp; done) | (go_simp; rfl)); (case hp => exact (Reps.none _ _)); intro v189 w3 ho4 hb hg_ hnew_; clear hg_ hnew_; (first | rw [← Ny188.out] at ho4 | (simp only [Int.reduceToNat] at ho4; rw [← Ny188.out] at ho4)); have n0_ := Aside0.mk (Kd.R_lower ho4 (below_size (by repeat (first | (with_reducible first | exact HB.out | apply below_alloc | apply pw_below_drewN | apply below_drew1) | exact HB.out)))); have n1_ := Aside0.mk (below_step (by repeat (first | (with_reducible first | exact HB.out | apply below_alloc | apply pw_below_drewN | apply below_drew1) | exact HB.out)) hb); clear HB; have HO190 := n0_; have HB := n1_; clear n0_ n1_; clear hb ho4) | ((with_reducible refine gate_callee (f := 28) rfl ?_); refine goesL_ (some 11) rfl rfl Tryz.func28 (by kernel_rfl) rfl #[.string a0, .string (⟨#[32]⟩ : ByteArray)] rfl (by (try simp only [List.map_toArray, List.map_cons, List.map_nil]); first | done | rfl | (simp only [List.length_drop, List.length_take]; rfl)) ?_; (with_reducible refine (strings_Split.calls a0 (⟨#[32]⟩ : ByteArray) t191 _ A2.out).mono ?_); rintro e w5 ⟨v192, rfl, ho0, hb⟩; refine ⟨_, rfl, ?_⟩; have n0_ := Aside0.mk (Kd.R_below (by (with_reducible repeat (first | apply Kd.R_alloc | apply Kd.R_drewN | apply Kd.R_drew)); exact HO190.out) hb); have n1_ := Aside0.mk (Kd.R_lower ho0 (below_size (by repeat (first | (with_reducible first | exact HB.out | apply below_alloc | apply pw_below_drewN | apply below_drew1) | exact HB.out)))); have n2_ := Aside0.mk (below_step (by repeat (first | (with_reducible first | exact HB.out | apply below_alloc | apply pw_below_drewN | apply below_drew1) | exact HB.out)) hb); clear HO190; clear HB; have HO190 := n0_; have HO193 := n1_; have HB := n2_; clear n0_ n1_ n2_; (try clear hb); (try clear hb2); (try clear hk); (try clear hi); (try clear ho0); obtain ⟨Ao6, co6, eo6⟩ := Kd.R_slice HO193.out; subst eo6))
  go_loopg [4, 13] k (fun kq v4 v13 w' => ∃ (x4_1 : List Int) (x13_1 : Int), v13 = .int .i64 x13_1 ∧ Aside0 (impl_readNumbers.l0 kq x4_1 t191 (t191.length : Int) x13_1 = some (r1, r2)) ∧ Aside0 (kq ≤ k) ∧ Aside0 (Kd.R (Kd.int .i64) 3 w' w.heap.size (fun _ => True) v4 x4_1) ∧ Aside0 (Kd.R Kd.string 9 w' w.heap.size (fun _ => True) (.slice Ao6 t191.length co6) t191) ∧ Aside0 (Below w.heap.size w w'))
  case atStart => exact ⟨(y188), (0), (by first | rfl | (simp; done) | (simp [*]; done)), H', ⟨Nat.le_refl _⟩, ⟨by (with_reducible repeat (first | apply Kd.R_alloc | apply Kd.R_drewN | apply Kd.R_drew)); exact HO190.out⟩, ⟨by (with_reducible repeat (first | apply Kd.R_alloc | apply Kd.R_drewN | apply Kd.R_drew)); exact HO193.out⟩, ⟨by repeat (first | (with_reducible first | exact HB.out | apply below_alloc | apply pw_below_drewN | apply below_drew1) | exact HB.out)⟩⟩
  case round =>
    clear H'
    try clear c2
    try clear p2
    try clear c6
    obtain ⟨x4_1, x13_1, rfl, HA, HK1, HO_4, HO_11, HB⟩ := hrel
    cases gk with
    | zero => exact absurd HA.out (by simp [impl_readNumbers.l0])
    | succ k1 =>
      have H := HA.out
      clear HA
      simp only [impl_readNumbers.l0] at H
      by_cases c7 : x13_1 < (t191.length : Int)
      · rw [if_pos c7] at H
        have c7b0 : decide (x13_1 < (t191.length : Int)) = true := decide_eq_true c7
        clear c7
        by_cases c8 : 0 ≤ x13_1
        · rw [if_pos c8] at H
          have c8b0 : decide (0 ≤ x13_1) = true := decide_eq_true c8
          clear c8
          by_cases c9 : x13_1 < (t191.length : Int)
          · rw [if_pos c9] at H
            have c9b0 : decide (x13_1 < (t191.length : Int)) = true := decide_eq_true c9
            clear c9
            have HC10 := Aside0.mk H
            clear H
            have p194 : 0 ≤ (x13_1 : Int) := of_decide_eq_true (by first | (with_reducible assumption) | assumption)
            have q194 : x13_1 < (t191.length : Int) := of_decide_eq_true (by first | (with_reducible assumption) | assumption)
            obtain ⟨ad194, e194, hx194_0⟩ := Kd.at_string (Kd.R_reads' HO_11.out).2.2 x13_1 p194 q194
            cases e194
            replace p194 := eq_true p194
            replace q194 := eq_true q194
            go_upto_region 5 with (fail)
            go_cut [24] (fun v24 wc => ∃ (kq : Nat) (x24_9 : Bool), v24 = .bool x24_9 ∧ Aside0 (impl_readNumbers.j1 kq x4_1 (rdOf ByteArray.empty t191 x13_1) t191 (t191.length : Int) x13_1 x24_9 = some (r1, r2)) ∧ Aside0 (kq ≤ k1) ∧ Aside0 (Kd.R (Kd.int .i64) 3 wc w.heap.size (fun _ => True) u4 x4_1) ∧ Aside0 (Kd.R Kd.string 9 wc w.heap.size (fun _ => True) (.slice (some ad194) t191.length co6) t191) ∧ Aside0 (Below w.heap.size w wc))
            case first =>
              have H := HC10.out
              clear HC10
              by_cases c11 : ((rdOf ByteArray.empty t191 x13_1).size : Int) < 1
              · rw [if_pos c11] at H
                have c11b0 : decide (((rdOf ByteArray.empty t191 x13_1).size : Int) < 1) = true := decide_eq_true c11
                have c11b1 : decide ((rdOf ByteArray.empty t191 x13_1).size < 1) = true := decide_eq_true (by omega)
                clear c11
                (first | rw [c11b0] | (simp only [i64_w, i32_w]; rw [c11b0]) | skip)
                have H' := Aside0.mk H
                clear H
                go_wp2
                go_meet
                case rel => exact ⟨_, (true), (by first | rfl | (simp; done) | (simp [*]; done)), H', ⟨by have := HK1.out; first | omega | exact Nat.le_refl _⟩, ⟨by (with_reducible repeat (first | apply Kd.R_alloc | apply Kd.R_drewN | apply Kd.R_drew)); exact HO_4.out⟩, ⟨by (with_reducible repeat (first | apply Kd.R_alloc | apply Kd.R_drewN | apply Kd.R_drew)); exact HO_11.out⟩, ⟨by repeat (first | (with_reducible first | exact HB.out | apply below_alloc | apply pw_below_drewN | apply below_drew1) | exact HB.out)⟩⟩
              · rw [if_neg c11] at H
                have c11b0 : decide (((rdOf ByteArray.empty t191 x13_1).size : Int) < 1) = false := decide_eq_false c11
                have c11b1 : decide ((rdOf ByteArray.empty t191 x13_1).size < 1) = false := decide_eq_false (by omega)
                clear c11
                (first | rw [c11b0] | (simp only [i64_w, i32_w]; rw [c11b0]) | skip)
                have H' := Aside0.mk H
                clear H
                go_wp2
                go_meet
                case rel => exact ⟨_, (decide (((rdOf ByteArray.empty t191 x13_1).size : Int) > 3)), (by first | rfl | (simp; done) | (simp [*]; done)), H', ⟨by have := HK1.out; first | omega | exact Nat.le_refl _⟩, ⟨by (with_reducible repeat (first | apply Kd.R_alloc | apply Kd.R_drewN | apply Kd.R_drew)); exact HO_4.out⟩, ⟨by (with_reducible repeat (first | apply Kd.R_alloc | apply Kd.R_drewN | apply Kd.R_drew)); exact HO_11.out⟩, ⟨by repeat (first | (with_reducible first | exact HB.out | apply below_alloc | apply pw_below_drewN | apply below_drew1) | exact HB.out)⟩⟩
            case rest =>
              clear HC10
              try clear c1
              try clear p1
              try clear q1
              try clear hx1
              try clear c2
              try clear p2
              try clear c6
              try clear c7
              try clear c7b0
              try clear c8
              try clear c8b0
              try clear c9
              try clear c9b0
              try clear c11
              try clear c11b0
              try clear c11b1
              try clear hx194_0
              try clear p194
              try clear p2
              try clear q194
              obtain ⟨kq, x24_9, rfl, HA, HJ9, HO_4, HO_11, HB⟩ := hcut
              cases kq with
              | zero => exact absurd HA.out (by simp [impl_readNumbers.j1])
              | succ kj9 =>
                have H := HA.out
                clear HA
                simp only [impl_readNumbers.j1] at H
                by_cases c12 : x24_9 = true
                · subst c12
                  have H1 : (some (([] : List Int), false)) = some (r1, r2) := by rw [if_pos rfl] at H; exact H
                  clear H
                  have H := H1
                  clear H1
                  simp only [Option.some.injEq, Prod.mk.injEq] at H
                  obtain ⟨rfl, rfl⟩ := H
                  go_wp2
                  go_ret2
                  exact ⟨_, by first | rfl | (simp [errW_none, errW_some] <;> rfl) | (simp [*, errW_none, errW_some] <;> rfl) | (exfalso; simp_all; done), by first | exact Kd.R_nil _ _ _ _ _ | exact Kd.N_nil _ _ _ _ _ | exact Kd.V_nil _ _ _ _ _ | exact Kd.Q_nil _ _ _ _ _ | exact Kd.S_nil _ _ _ _ _, by repeat (first | (with_reducible first | exact HB.out | apply below_alloc | apply pw_below_drewN | apply below_drew1) | exact HB.out)⟩
                · replace c12 := Bool.eq_false_iff.mpr c12
                  subst c12
                  have H1 : (impl_readNumbers.l1 kj9 x4_1 (rdOf ByteArray.empty t191 x13_1) 0 t191 (t191.length : Int) x13_1 ((rdOf ByteArray.empty t191 x13_1).size : Int) 0) = some (r1, r2) := by rw [if_neg (show ¬ (false = true) by decide)] at H; exact H
                  clear H
                  have H := H1
                  clear H1
                  have H' := Aside0.mk H
                  clear H
                  go_wp2
                  go_loopg [7, 27] kj9 (fun kq v7 v27 w' => ∃ (x7_3 : Int) (x27_3 : Int), v7 = .int .i64 x7_3 ∧ v27 = .int .i64 x27_3 ∧ Aside0 (impl_readNumbers.l1 kq x4_1 (rdOf ByteArray.empty t191 x13_1) x7_3 t191 (t191.length : Int) x13_1 ((rdOf ByteArray.empty t191 x13_1).size : Int) x27_3 = some (r1, r2)) ∧ Aside0 (kq ≤ kj9) ∧ Aside0 (Kd.R (Kd.int .i64) 3 w' w.heap.size (fun _ => True) u4 x4_1) ∧ Aside0 (Kd.R Kd.string 9 w' w.heap.size (fun _ => True) (.slice (some ad194) t191.length co6) t191) ∧ Aside0 (Below w.heap.size w w'))
                  case atStart => exact ⟨(0), (0), (by first | rfl | (simp; done) | (simp [*]; done)), (by first | rfl | (simp; done) | (simp [*]; done)), H', ⟨Nat.le_refl _⟩, ⟨by (with_reducible repeat (first | apply Kd.R_alloc | apply Kd.R_drewN | apply Kd.R_drew)); exact HO_4.out⟩, ⟨by (with_reducible repeat (first | apply Kd.R_alloc | apply Kd.R_drewN | apply Kd.R_drew)); exact HO_11.out⟩, ⟨by repeat (first | (with_reducible first | exact HB.out | apply below_alloc | apply pw_below_drewN | apply below_drew1) | exact HB.out)⟩⟩
                  case round =>
                    clear H'
                    try clear c1
                    try clear p1
                    try clear q1
                    try clear hx1
                    try clear c2
                    try clear p2
                    try clear c6
                    try clear c7
                    try clear c7b0
                    try clear c8
                    try clear c8b0
                    try clear c9
                    try clear c9b0
                    try clear c11
                    try clear c11b0
                    try clear c11b1
                    try clear c12
                    try clear hx194_0
                    try clear p1
                    try clear p194
                    try clear p2
                    try clear q1
                    try clear q194
                    obtain ⟨x7_3, x27_3, rfl, rfl, HA, HK3, HO_4, HO_11, HB⟩ := hrel
                    cases gk with
                    | zero => exact absurd HA.out (by simp [impl_readNumbers.l1])
                    | succ k3 =>
                      have H := HA.out
                      clear HA
                      simp only [impl_readNumbers.l1] at H
                      by_cases c13 : x27_3 < ((rdOf ByteArray.empty t191 x13_1).size : Int)
                      · rw [if_pos c13] at H
                        have c13b0 : decide (x27_3 < ((rdOf ByteArray.empty t191 x13_1).size : Int)) = true := decide_eq_true c13
                        clear c13
                        by_cases c14 : 0 ≤ x27_3
                        · rw [if_pos c14] at H
                          have c14b0 : decide (0 ≤ x27_3) = true := decide_eq_true c14
                          clear c14
                          by_cases c15 : x27_3 < ((rdOf ByteArray.empty t191 x13_1).size : Int)
                          · rw [if_pos c15] at H
                            have c15b0 : decide (x27_3 < ((rdOf ByteArray.empty t191 x13_1).size : Int)) = true := decide_eq_true c15
                            clear c15
                            by_cases c17 : (bt (rdOf ByteArray.empty t191 x13_1) x27_3) < 48
                            · rw [if_pos c17] at H
                              have c17b0 : decide ((bt (rdOf ByteArray.empty t191 x13_1) x27_3) < 48) = true := decide_eq_true c17
                              clear c17
                              simp only [Option.some.injEq, Prod.mk.injEq] at H
                              obtain ⟨rfl, rfl⟩ := H
                              have p16 : 0 ≤ (x27_3 : Int) := of_decide_eq_true (by first | (with_reducible assumption) | assumption)
                              have q16 : x27_3 < ((rdOf ByteArray.empty t191 x13_1).size : Int) := of_decide_eq_true (by first | (with_reducible assumption) | assumption)
                              have hx16 := bt_at (rdOf ByteArray.empty t191 x13_1) x27_3
                              replace p16 := eq_true p16
                              replace q16 := eq_true q16
                              go_wp2
                              go_ret2
                              exact ⟨_, by first | rfl | (simp [errW_none, errW_some] <;> rfl) | (simp [*, errW_none, errW_some] <;> rfl) | (exfalso; simp_all; done), by first | exact Kd.R_nil _ _ _ _ _ | exact Kd.N_nil _ _ _ _ _ | exact Kd.V_nil _ _ _ _ _ | exact Kd.Q_nil _ _ _ _ _ | exact Kd.S_nil _ _ _ _ _, by repeat (first | (with_reducible first | exact HB.out | apply below_alloc | apply pw_below_drewN | apply below_drew1) | exact HB.out)⟩
                            · rw [if_neg c17] at H
                              have c17b0 : decide ((bt (rdOf ByteArray.empty t191 x13_1) x27_3) < 48) = false := decide_eq_false c17
                              clear c17
                              by_cases c19 : (bt (rdOf ByteArray.empty t191 x13_1) x27_3) > 57
                              · rw [if_pos c19] at H
                                have c19b0 : decide (57 < (bt (rdOf ByteArray.empty t191 x13_1) x27_3)) = true := decide_eq_true c19
                                clear c19
                                simp only [Option.some.injEq, Prod.mk.injEq] at H
                                obtain ⟨rfl, rfl⟩ := H
                                have p16 : 0 ≤ (x27_3 : Int) := of_decide_eq_true (by first | (with_reducible assumption) | assumption)
                                have q16 : x27_3 < ((rdOf ByteArray.empty t191 x13_1).size : Int) := of_decide_eq_true (by first | (with_reducible assumption) | assumption)
                                have hx16 := bt_at (rdOf ByteArray.empty t191 x13_1) x27_3
                                replace p16 := eq_true p16
                                replace q16 := eq_true q16
                                have p18 : 0 ≤ (x27_3 : Int) := of_decide_eq_true (by first | (with_reducible assumption) | assumption)
                                have q18 : x27_3 < ((rdOf ByteArray.empty t191 x13_1).size : Int) := of_decide_eq_true (by first | (with_reducible assumption) | assumption)
                                have hx18 := bt_at (rdOf ByteArray.empty t191 x13_1) x27_3
                                replace p18 := eq_true p18
                                replace q18 := eq_true q18
                                go_wp2
                                go_ret2
                                exact ⟨_, by first | rfl | (simp [errW_none, errW_some] <;> rfl) | (simp [*, errW_none, errW_some] <;> rfl) | (exfalso; simp_all; done), by first | exact Kd.R_nil _ _ _ _ _ | exact Kd.N_nil _ _ _ _ _ | exact Kd.V_nil _ _ _ _ _ | exact Kd.Q_nil _ _ _ _ _ | exact Kd.S_nil _ _ _ _ _, by repeat (first | (with_reducible first | exact HB.out | apply below_alloc | apply pw_below_drewN | apply below_drew1) | exact HB.out)⟩
                              · rw [if_neg c19] at H
                                have c19b0 : decide (57 < (bt (rdOf ByteArray.empty t191 x13_1) x27_3)) = false := decide_eq_false c19
                                clear c19
                                have H' := Aside0.mk H
                                clear H
                                have p16 : 0 ≤ (x27_3 : Int) := of_decide_eq_true (by first | (with_reducible assumption) | assumption)
                                have q16 : x27_3 < ((rdOf ByteArray.empty t191 x13_1).size : Int) := of_decide_eq_true (by first | (with_reducible assumption) | assumption)
                                have hx16 := bt_at (rdOf ByteArray.empty t191 x13_1) x27_3
                                replace p16 := eq_true p16
                                replace q16 := eq_true q16
                                have p18 : 0 ≤ (x27_3 : Int) := of_decide_eq_true (by first | (with_reducible assumption) | assumption)
                                have q18 : x27_3 < ((rdOf ByteArray.empty t191 x13_1).size : Int) := of_decide_eq_true (by first | (with_reducible assumption) | assumption)
                                have hx18 := bt_at (rdOf ByteArray.empty t191 x13_1) x27_3
                                replace p18 := eq_true p18
                                replace q18 := eq_true q18
                                have p20 : 0 ≤ (x27_3 : Int) := of_decide_eq_true (by first | (with_reducible assumption) | assumption)
                                have q20 : x27_3 < ((rdOf ByteArray.empty t191 x13_1).size : Int) := of_decide_eq_true (by first | (with_reducible assumption) | assumption)
                                have hx20 := bt_at (rdOf ByteArray.empty t191 x13_1) x27_3
                                replace p20 := eq_true p20
                                replace q20 := eq_true q20
                                go_wp2
                                go_roundg k3
                                case measure => have := HK1.out; have := HJ9.out; have := HK3.out; omega
                                case rel => exact ⟨(wrap64 ((wrap64 (x7_3 * 10)) + (((bt (rdOf ByteArray.empty t191 x13_1) x27_3) - 48) % 256))), (wrap64 (x27_3 + 1)), (by first | rfl | (simp; done) | (simp [*]; done)), (by first | rfl | (simp; done) | (simp [*]; done)), H', ⟨by have := HK1.out; have := HJ9.out; have := HK3.out; omega⟩, ⟨by (with_reducible repeat (first | apply Kd.R_alloc | apply Kd.R_drewN | apply Kd.R_drew)); exact HO_4.out⟩, ⟨by (with_reducible repeat (first | apply Kd.R_alloc | apply Kd.R_drewN | apply Kd.R_drew)); exact HO_11.out⟩, ⟨by repeat (first | (with_reducible first | exact HB.out | apply below_alloc | apply pw_below_drewN | apply below_drew1) | exact HB.out)⟩⟩
                          · rw [if_neg c15] at H
                            exact absurd H (by simp)
                        · rw [if_neg c14] at H
                          exact absurd H (by simp)
                      · rw [if_neg c13] at H
                        have c13b0 : decide (x27_3 < ((rdOf ByteArray.empty t191 x13_1).size : Int)) = false := decide_eq_false c13
                        clear c13
                        by_cases c21 : x4_1.length < 17592186044416
                        · rw [if_pos c21] at H
                          have LMc21 := Aside0.mk c21
                          clear c21
                          obtain ⟨y195, hy195⟩ : ∃ y_ : List Int, y_ = (x4_1 ++ [x7_3]) := ⟨_, rfl⟩
                          replace H : (impl_readNumbers.l0 k3 y195 t191 (t191.length : Int) (wrap64 (x13_1 + 1))) = some (r1, r2) := by first | (rw [hy195]; with_reducible exact H) | (have H2_ := (Option.bind_some _ _).symm.trans H; rw [hy195]; with_reducible exact H2_) | (have H2_ := (Option.bind_some _ _).symm.trans H; with_reducible exact H2_) | with_reducible exact H | (rw [hy195]; exact H) | exact H
                          have Ny195 := Aside0.mk hy195
                          clear hy195
                          have H' := Aside0.mk H
                          clear H
                          go_wp2_with (first | ((with_reducible refine gate_builtin (b := .append) (xs := #[.tmp 49, .tmp 51]) rfl ?_); (try (refine gate_guard (by rfl) ?_; dsimp only)); at_builtin; refine Kd.R_append (Kd.int .i64) (w0 := w) w.heap.size rfl (.tmp 49) (.tmp 51) 23 3 (.int .i64 0) 8 rfl Tryz.underlying23 info3 rfl (by decide) (by omega) u4 x4_1 x7_3 [.int .i64 x7_3] (fun _ => True) (fun _ => False) rfl rfl ?aP (fun _ hk => hk.elim) ?aF ?aO ?aB ?aS ?aL ?_; (case aP => exact rfl); (case aB => exact (by repeat (first | (with_reducible first | exact HB.out | apply below_alloc | apply pw_below_drewN | apply below_drew1) | exact HB.out))); (case aF => exact (fun _ _ => trivial)); (case aO => exact (by (with_reducible repeat (first | apply Kd.R_alloc | apply Kd.R_drewN | apply Kd.R_drew)); exact HO_4.out)); (case aS => exact (below_size (by repeat (first | (with_reducible first | exact HB.out | apply below_alloc | apply pw_below_drewN | apply below_drew1) | exact HB.out)))); (case aL => have := LMc21.out; omega); intro v196 w22 ho hb hg hat; rw [← Ny195.out] at ho; have n0_ := Aside0.mk (Kd.R_over' (by (with_reducible repeat (first | apply Kd.R_alloc | apply Kd.R_drewN | apply Kd.R_drew)); exact HO_11.out) (Kd.R_typed (by (with_reducible repeat (first | apply Kd.R_alloc | apply Kd.R_drewN | apply Kd.R_drew)); exact HO_4.out)) (by decide) hg); have n1_ := Aside0.mk (hb); have n2_ := Aside0.mk (ho); clear HO_11; clear HB; clear HO_4; have HO_11 := n0_; have HB := n1_; have HO197 := n2_; clear n0_ n1_ n2_; clear ho hb hg hat))
                          go_roundg k3
                          case measure => have := HK1.out; have := HJ9.out; have := HK3.out; omega
                          case rel => exact ⟨(y195), (wrap64 (x13_1 + 1)), (by first | rfl | (simp; done) | (simp [*]; done)), H', ⟨by have := HK1.out; have := HJ9.out; have := HK3.out; omega⟩, ⟨by (with_reducible repeat (first | apply Kd.R_alloc | apply Kd.R_drewN | apply Kd.R_drew)); exact HO197.out⟩, ⟨by (with_reducible repeat (first | apply Kd.R_alloc | apply Kd.R_drewN | apply Kd.R_drew)); exact HO_11.out⟩, ⟨by repeat (first | (with_reducible first | exact HB.out | apply below_alloc | apply pw_below_drewN | apply below_drew1) | exact HB.out)⟩⟩
                        · rw [if_neg c21] at H
                          exact absurd H (by simp)
          · rw [if_neg c9] at H
            exact absurd H (by simp)
        · rw [if_neg c8] at H
          exact absurd H (by simp)
      · rw [if_neg c7] at H
        have c7b0 : decide (x13_1 < (t191.length : Int)) = false := decide_eq_false c7
        clear c7
        simp only [Option.some.injEq, Prod.mk.injEq] at H
        obtain ⟨rfl, rfl⟩ := H
        go_wp2
        go_ret2
        exact ⟨_, by first | rfl | (simp [errW_none, errW_some] <;> rfl) | (simp [*, errW_none, errW_some] <;> rfl) | (exfalso; simp_all; done), by (with_reducible repeat (first | apply Kd.R_alloc | apply Kd.R_drewN | apply Kd.R_drew)); exact HO_4.out, by repeat (first | (with_reducible first | exact HB.out | apply below_alloc | apply pw_below_drewN | apply below_drew1) | exact HB.out)⟩

/-! ### impl_become: function 67, by hand -/
set_option maxRecDepth 100000 in
theorem impl_become.yes (g : Nat) (A : Option Addr) (n c : Nat) (x : Value) (w : World) (h : w.heap[g]? = some (.cells #[x] 23 (0, 0))) :
    Calls Tryz.prog 67 #[.pointer (some ⟨g, 0, none⟩), .slice A n c, .bool true] w fun e w' => e = .returned (.string ⟨#[111, 107]⟩) ∧ w' = w.setCell ⟨g, 0, none⟩ (.slice A n c) := by
  have c0 : _ = some _ := blk_cell h 0
  have f0 := blk_frozen h 0
  clear h
  go_enter Tryz.func67, Tryz.ntmps67
  go_wp2
  go_ret
  exact ⟨rfl, rfl⟩
set_option maxRecDepth 100000 in
theorem impl_become.no (g : Nat) (A : Option Addr) (n c : Nat) (w : World) :
    Calls Tryz.prog 67 #[.pointer (some ⟨g, 0, none⟩), .slice A n c, .bool false] w fun e w' => e = .returned (.string ⟨#[110, 111]⟩) ∧ w' = w := by
  go_enter Tryz.func67, Tryz.ntmps67
  go_wp2
  go_ret
  exact ⟨rfl, rfl⟩
/-- A list of the call's own is laid into the ruler's cell. -/
theorem Ruled.put {w w1 : World} {B g : Nat} {A : Option Addr} {c : Nat} {l : List Int} {x : Value} (hg : w.heap[g]? = some (.cells #[x] 23 (0, 0))) (hb : Below w.heap.size w w1) (hr : Kd.R (Kd.int .i64) 3 w1 w.heap.size (fun _ => True) (.slice A l.length c) l) (hB : B ≤ w.heap.size) : Ruled w (w1.setCell ⟨g, 0, none⟩ (.slice A l.length c)) B g l :=
  ⟨⟨hb.os, hb.tape, hb.output, by simp [World.setCell]; exact hb.size, fun k hk hne => (Below.heap_setCell _ _ _ k (fun e => hne (by rw [e]))).trans (hb.block k hk)⟩, A, c, blk_put (blk_below hg hb) 0 _ rfl, Kd.R_lower (Kd.R_set hr (blk_below hg hb) (by decide) 0 _) hB⟩

/-! ### impl_withRest: function 31, by hand: the lines that this law asks -/
/-! #### a map that the call makes of names and numbers -/
theorem impl_withRest.keyS : Go.Maps.Keyed Tryz.prog 9 := Go.Maps.string_keyed Tryz.underlying9
theorem impl_withRest.zeroI (w : World) : (zeroValue 3).run Tryz.prog w = .ok (.int .i64 0) w := by kernel_rfl
theorem impl_withRest.map_event {P : Program} {ops : Array Oper} {rest : List Oper} {o : Oper} {a : Act} {Q : Exit → Act → World → Prop} {W : World} (k : TypeId) (R : Value → Option (DataW Unit × List MemPlace)) (hgd : o.guard = none) {N : Tmp} (_hd : o.dst = some N)
    (hrun : (execOp a.eval o).run P W = .ok (.value (.map (some W.heap.size))) (W.alloc (.map #[] 0)))
    (h : ∀ g, g = W.heap.size → ∀ w1, w1.ownsMap P k R g 0 (.map []) → Below W.heap.size W w1 → wpList P ops Q rest (a.put o.dst (.map (some g))) w1) : wpList P ops Q (o :: rest) a W :=
  Kd.event_run hgd hrun (h _ rfl _ (World.ownsMap_made _ _ _ _) (below_alloc (Below.refl _ _) _))
theorem impl_withRest.insert_own {P : Program} (w : World) {ops : Array Oper} {rest : List Oper} {o : Oper} {a : Act} {Q : Exit → Act → World → Prop}
    (hg : o.guard = none) (m x v : Operand) (t : TypeId) (hop : o.op = Op.insert t m x v)
    (k e : TypeId) (K : Go.Maps.Keyed P k) (ht : P.underlying t = some (.map k e)) (R : Value → Option (DataW Unit × List MemPlace)) (b n : Nat) (D : DataW Unit)
    (hm : a.eval m = .map (some b)) (hown : w.ownsMap P k R b n D) (hn : n < maxLen) (key val : Value) (kl : Lit) (hx : a.eval x = key) (hv : a.eval v = val) (hkey : keyOf P k key = some kl)
    (d : DataW Unit) (ps : List MemPlace) (hval : R val = some (d, ps))
    (hK : ∀ w', w'.ownsMap P k R b (n + 1) (D.put kl d) → w.grownBy w' (some b) → wpList P ops Q rest (a.put o.dst undef) w') :
    wpList P ops Q (o :: rest) a w := by
  refine wpList_plain hg fun K' hK' => ?_
  obtain ⟨w', hrun, r1, r2⟩ := hown.update K ht hn hkey hval
  unfold Oper.wp
  simp [execOp, hop, hm, hx, hv, hrun, Result.andThen]
  exact hK' _ _ (hK w' r1 r2)
def impl_withRest.f_set (k : Nat) (l : List Int) (rest : ByteArray) : Option (ByteArray × List Int) := (impl_readNumbers.f k rest).bind fun q => if q.2 = true then (if 0 < q.1.length then ((impl_isRuler.f k q.1).bind fun x => if x = true then some (⟨#[111, 107]⟩, q.1) else some (⟨#[110, 111]⟩, l)) else none) else some (⟨#[110, 111]⟩, l)
theorem impl_withRest.mono_set (k : Nat) (l : List Int) (rest : ByteArray) : LeO (impl_withRest.f_set k l rest) (impl_withRest.f_set (k + 1) l rest) := LeO.bind (impl_readNumbers.mono _ _) (fun _ => LeO.ite (LeO.ite (LeO.bind (impl_isRuler.mono _ _) (fun _ => LeO.refl _)) (LeO.refl _)) (LeO.refl _))
set_option maxHeartbeats 8000000 in
set_option maxRecDepth 100000 in
theorem impl_withRest.go_set (k : Nat) (B g : Nat) (A0 : Option Addr) (c0 : Nat) (l0 : List Int) (rest r : ByteArray) (l1 : List Int) (w : World) (hg : w.heap[g]? = some (.cells #[.slice A0 l0.length c0] 23 (0, 0))) (hr0 : Kd.R (Kd.int .i64) 3 w B (fun _ => True) (.slice A0 l0.length c0) l0) (hB : B ≤ g) (htab_ : TabW w) (h : impl_withRest.f_set k l0 rest = some (r, l1)) :
    Calls Tryz.prog 31 #[.pointer (some ⟨g, 0, none⟩), .string ⟨#[115, 101, 116]⟩, .string rest] w fun e w' => e = .returned (.string r) ∧ Ruled w w' B g l1 := by
  have HG := Aside0.mk hg
  have HR := Aside0.mk hr0
  have HB := Aside0.mk (Below.refl w.heap.size w)
  have HBB := Aside0.mk (show B ≤ w.heap.size from Nat.le_trans hB (Nat.le_of_lt (blk_lt hg)))
  have HTAB_ := Aside0.mk htab_
  have cg : _ = some _ := blk_cell hg 0
  have hmm := @run_makeMap Tryz.prog
  clear hg hr0 hB htab_
  obtain ⟨⟨q, ok⟩, h1, h⟩ := Option.bind_eq_some_iff.mp h
  have A1 := Aside0.mk h1
  clear h1
  simp only at h
  by_cases c1 : ok = true
  · rw [if_pos c1] at h
    subst c1
    by_cases c2 : 0 < q.length
    · rw [if_pos c2] at h
      obtain ⟨b, h2, h⟩ := Option.bind_eq_some_iff.mp h
      have A2 := Aside0.mk h2
      have C2 := Aside0.mk c2
      clear h2 c2
      by_cases c3 : b = true
      · rw [if_pos c3] at h
        subst c3
        simp only [Option.some.injEq, Prod.mk.injEq] at h
        obtain ⟨rfl, rfl⟩ := h
        go_enter Tryz.func31, Tryz.ntmps31
        go_wp2_with (first
          | ((with_reducible refine gate_dst (N := 61) rfl ?_); refine impl_withRest.map_event 9 (plainElem Tryz.prog 3) ?hg (N := 61) ?hd ?hr ?_; (case hd => rfl); (case hg => rfl); (case hr => first | (go_simp; done) | (go_simp; rfl)); intro gm hgm wm hm hb; have GM := Aside0.mk (show w.heap.size ≤ gm by rw [hgm]; exact (below_size (by repeat (first | (with_reducible first | exact HB.out | apply below_alloc | apply pw_below_drewN | apply below_drew1) | exact HB.out)))); have n0_ := Aside0.mk (below_step (by repeat (first | (with_reducible first | exact HB.out | apply below_alloc | apply pw_below_drewN | apply below_drew1) | exact HB.out)) hb); have HM := Aside0.mk hm; clear hgm hm hb HB; have HB := n0_; clear n0_)
          | (refine impl_withRest.insert_own _ rfl _ _ _ 86 rfl 9 3 impl_withRest.keyS Tryz.underlying86 _ gm _ _ rfl HM.out (by unfold maxLen; omega) _ _ _ rfl rfl (Go.WideMaps.keyOf_string_mk Tryz.underlying9 (by decide)) _ [] (plainElem_int Tryz.underlying3 (by decide)) ?_; intro wm hm1 hg1; have n0_ := Aside0.mk (pw_below_grown HB.out _ HB.out.size hg1 (fun k hk => by obtain rfl := Option.some.inj hk; exact GM.out)); have n1_ := Aside0.mk hm1; clear HB HM hm1 hg1; have HB := n0_; have HM := n1_; clear n0_ n1_)
          | (go_at_call 66; refine (impl_readNumbers.calls k rest q true _ A1.out).mono ?_; rintro e w1 ⟨v1, rfl, hr1, hb1⟩; obtain ⟨A7, c7, rfl⟩ := Kd.R_slice hr1; have HQ := Aside0.mk (Kd.R_lower hr1 (below_size (by repeat (first | (with_reducible first | exact HB.out | apply below_alloc | apply pw_below_drewN | apply below_drew1) | exact HB.out)))); have n0_ := Aside0.mk (below_step (by repeat (first | (with_reducible first | exact HB.out | apply below_alloc | apply pw_below_drewN | apply below_drew1) | exact HB.out)) hb1); clear HB HM hr1 hb1; have HB := n0_; clear n0_; obtain ⟨ad7, e7, hx7⟩ := Kd.at_int (Kd.R_reads' HQ.out).2.2 0 (by omega) (by have := C2.out; omega); cases e7; rw [show ad7.add (0 : Int).toNat = ad7 by simp [Addr.add]] at hx7; have hl7 := World.block_lt_of_cell? _ _ hx7; have p7 : (0 : Int) < (q.length : Int) := by have := C2.out; omega)
          | (go_at_call 35; refine (impl_isRuler.calls k _ _ q true _ (Kd.R_reads' HQ.out).2.2 (Kd.R_reads' HQ.out).2.1 A2.out).mono ?_; rintro e w1_ ⟨rfl, ⟨⟨n_, rfl⟩⟩⟩; have n0_ := Aside0.mk (pw_below_drewN (by repeat (first | (with_reducible first | exact HB.out | apply below_alloc | apply pw_below_drewN | apply below_drew1) | exact HB.out)) n_); clear HB; have HB := n0_; clear n0_; have n1_ := Aside0.mk (Kd.R_drewN HQ.out n_); clear HQ; have HQ := n1_; clear n1_)
          | (go_at_call 67; refine (impl_become.yes g _ _ _ _ _ (blk_below HG.out (by repeat (first | (with_reducible first | exact HB.out | apply below_alloc | apply pw_below_drewN | apply below_drew1) | exact HB.out)))).mono ?_; rintro e w3 ⟨rfl, rfl⟩))
        go_ret
        exact ⟨rfl, Ruled.put HG.out HB.out HQ.out HBB.out⟩
      · rw [if_neg c3] at h
        replace c3 := Bool.eq_false_iff.mpr c3
        subst c3
        simp only [Option.some.injEq, Prod.mk.injEq] at h
        obtain ⟨rfl, rfl⟩ := h
        go_enter Tryz.func31, Tryz.ntmps31
        go_wp2_with (first
          | ((with_reducible refine gate_dst (N := 61) rfl ?_); refine impl_withRest.map_event 9 (plainElem Tryz.prog 3) ?hg (N := 61) ?hd ?hr ?_; (case hd => rfl); (case hg => rfl); (case hr => first | (go_simp; done) | (go_simp; rfl)); intro gm hgm wm hm hb; have GM := Aside0.mk (show w.heap.size ≤ gm by rw [hgm]; exact (below_size (by repeat (first | (with_reducible first | exact HB.out | apply below_alloc | apply pw_below_drewN | apply below_drew1) | exact HB.out)))); have n0_ := Aside0.mk (below_step (by repeat (first | (with_reducible first | exact HB.out | apply below_alloc | apply pw_below_drewN | apply below_drew1) | exact HB.out)) hb); have HM := Aside0.mk hm; clear hgm hm hb HB; have HB := n0_; clear n0_)
          | (refine impl_withRest.insert_own _ rfl _ _ _ 86 rfl 9 3 impl_withRest.keyS Tryz.underlying86 _ gm _ _ rfl HM.out (by unfold maxLen; omega) _ _ _ rfl rfl (Go.WideMaps.keyOf_string_mk Tryz.underlying9 (by decide)) _ [] (plainElem_int Tryz.underlying3 (by decide)) ?_; intro wm hm1 hg1; have n0_ := Aside0.mk (pw_below_grown HB.out _ HB.out.size hg1 (fun k hk => by obtain rfl := Option.some.inj hk; exact GM.out)); have n1_ := Aside0.mk hm1; clear HB HM hm1 hg1; have HB := n0_; have HM := n1_; clear n0_ n1_)
          | (go_at_call 66; refine (impl_readNumbers.calls k rest q true _ A1.out).mono ?_; rintro e w1 ⟨v1, rfl, hr1, hb1⟩; obtain ⟨A7, c7, rfl⟩ := Kd.R_slice hr1; have HQ := Aside0.mk (Kd.R_lower hr1 (below_size (by repeat (first | (with_reducible first | exact HB.out | apply below_alloc | apply pw_below_drewN | apply below_drew1) | exact HB.out)))); have n0_ := Aside0.mk (below_step (by repeat (first | (with_reducible first | exact HB.out | apply below_alloc | apply pw_below_drewN | apply below_drew1) | exact HB.out)) hb1); clear HB HM hr1 hb1; have HB := n0_; clear n0_; obtain ⟨ad7, e7, hx7⟩ := Kd.at_int (Kd.R_reads' HQ.out).2.2 0 (by omega) (by have := C2.out; omega); cases e7; rw [show ad7.add (0 : Int).toNat = ad7 by simp [Addr.add]] at hx7; have hl7 := World.block_lt_of_cell? _ _ hx7; have p7 : (0 : Int) < (q.length : Int) := by have := C2.out; omega)
          | (go_at_call 35; refine (impl_isRuler.calls k _ _ q false _ (Kd.R_reads' HQ.out).2.2 (Kd.R_reads' HQ.out).2.1 A2.out).mono ?_; rintro e w1_ ⟨rfl, ⟨⟨n_, rfl⟩⟩⟩; have n0_ := Aside0.mk (pw_below_drewN (by repeat (first | (with_reducible first | exact HB.out | apply below_alloc | apply pw_below_drewN | apply below_drew1) | exact HB.out)) n_); clear HB; have HB := n0_; clear n0_; have n1_ := Aside0.mk (Kd.R_drewN HQ.out n_); clear HQ; have HQ := n1_; clear n1_)
          | (go_at_call 67; refine (impl_become.no g _ _ _ _).mono ?_; rintro e w3 ⟨rfl, rfl⟩))
        go_ret
        exact ⟨rfl, Ruled.same HG.out HR.out (by repeat (first | (with_reducible first | exact HB.out | apply below_alloc | apply pw_below_drewN | apply below_drew1) | exact HB.out))⟩
    · rw [if_neg c2] at h
      exact absurd h (by simp)
  · rw [if_neg c1] at h
    replace c1 := Bool.eq_false_iff.mpr c1
    subst c1
    simp only [Option.some.injEq, Prod.mk.injEq] at h
    obtain ⟨rfl, rfl⟩ := h
    go_enter Tryz.func31, Tryz.ntmps31
    go_wp2_with (first
      | ((with_reducible refine gate_dst (N := 61) rfl ?_); refine impl_withRest.map_event 9 (plainElem Tryz.prog 3) ?hg (N := 61) ?hd ?hr ?_; (case hd => rfl); (case hg => rfl); (case hr => first | (go_simp; done) | (go_simp; rfl)); intro gm hgm wm hm hb; have GM := Aside0.mk (show w.heap.size ≤ gm by rw [hgm]; exact (below_size (by repeat (first | (with_reducible first | exact HB.out | apply below_alloc | apply pw_below_drewN | apply below_drew1) | exact HB.out)))); have n0_ := Aside0.mk (below_step (by repeat (first | (with_reducible first | exact HB.out | apply below_alloc | apply pw_below_drewN | apply below_drew1) | exact HB.out)) hb); have HM := Aside0.mk hm; clear hgm hm hb HB; have HB := n0_; clear n0_)
      | (refine impl_withRest.insert_own _ rfl _ _ _ 86 rfl 9 3 impl_withRest.keyS Tryz.underlying86 _ gm _ _ rfl HM.out (by unfold maxLen; omega) _ _ _ rfl rfl (Go.WideMaps.keyOf_string_mk Tryz.underlying9 (by decide)) _ [] (plainElem_int Tryz.underlying3 (by decide)) ?_; intro wm hm1 hg1; have n0_ := Aside0.mk (pw_below_grown HB.out _ HB.out.size hg1 (fun k hk => by obtain rfl := Option.some.inj hk; exact GM.out)); have n1_ := Aside0.mk hm1; clear HB HM hm1 hg1; have HB := n0_; have HM := n1_; clear n0_ n1_)
      | (go_at_call 66; refine (impl_readNumbers.calls k rest q false _ A1.out).mono ?_; rintro e w1 ⟨v1, rfl, hr1, hb1⟩; obtain ⟨A7, c7, rfl⟩ := Kd.R_slice hr1; have n0_ := Aside0.mk (below_step (by repeat (first | (with_reducible first | exact HB.out | apply below_alloc | apply pw_below_drewN | apply below_drew1) | exact HB.out)) hb1); clear HB HM hr1 hb1; have HB := n0_; clear n0_))
    go_ret
    exact ⟨rfl, Ruled.same HG.out HR.out (by repeat (first | (with_reducible first | exact HB.out | apply below_alloc | apply pw_below_drewN | apply below_drew1) | exact HB.out))⟩
def impl_withRest.f (k : Nat) (l : List Int) (word rest : ByteArray) : Option (ByteArray × List Int) :=
  if word = (⟨#[115, 101, 116]⟩ : ByteArray) then impl_withRest.f_set k l rest else none
theorem impl_withRest.mono : ∀ a0 a1 a2 k, LeO (impl_withRest.f k a0 a1 a2) (impl_withRest.f (k + 1) a0 a1 a2) := fun _ _ _ _ => LeO.ite (impl_withRest.mono_set _ _ _) (LeO.refl _)
theorem impl_withRest.calls (k : Nat) (B g : Nat) (A0 : Option Addr) (c0 : Nat) (l0 : List Int) (word rest r : ByteArray) (l1 : List Int) (w : World) (hg : w.heap[g]? = some (.cells #[.slice A0 l0.length c0] 23 (0, 0))) (hr0 : Kd.R (Kd.int .i64) 3 w B (fun _ => True) (.slice A0 l0.length c0) l0) (hB : B ≤ g) (htab_ : TabW w) (h : impl_withRest.f k l0 word rest = some (r, l1)) :
    Calls Tryz.prog 31 #[.pointer (some ⟨g, 0, none⟩), .string word, .string rest] w fun e w' => e = .returned (.string r) ∧ Ruled w w' B g l1 := by
  unfold impl_withRest.f at h
  by_cases d_set : word = (⟨#[115, 101, 116]⟩ : ByteArray)
  · rw [if_pos d_set] at h
    subst d_set
    exact impl_withRest.go_set k B g A0 c0 l0 rest r l1 w hg hr0 hB htab_ h
  rw [if_neg d_set] at h
  exact absurd h (by simp)

/-! ### impl_written: function 58 -/
def impl_written.f (a0 : ByteArray) (a1 : Bool) : Option (ByteArray) := if a1 = true then (some a0) else (some (⟨#[110, 111]⟩ : ByteArray))
set_option maxHeartbeats 8000000 in
set_option maxRecDepth 100000 in
theorem impl_written.calls (a0 : ByteArray) (a1 : Bool) (r : ByteArray) (w : World) (h : impl_written.f a0 a1 = some r) :
    Calls Tryz.prog 58 #[.string a0, .bool a1] w fun e w' => e = .returned (.string r) ∧ Drawn0 w w' := by
  have H : (if a1 = true then (some a0) else (some (⟨#[110, 111]⟩ : ByteArray))) = some r := h
  clear h
  by_cases c3 : a1 = true
  · subst c3
    have H1 : (some a0) = some r := by rw [if_pos rfl] at H; exact H
    clear H
    have H := H1
    clear H1
    obtain rfl := Option.some.inj H
    go_enter Tryz.func58, Tryz.ntmps58
    go_wp2
    go_ret
    exact ⟨by first | rfl | (simp; done) | (simp [*]; done), by repeat (first | exact Drawn0.refl _ | apply Drawn0.step)⟩
  · replace c3 := Bool.eq_false_iff.mpr c3
    subst c3
    have H1 : (some (⟨#[110, 111]⟩ : ByteArray)) = some r := by rw [if_neg (show ¬ (false = true) by decide)] at H; exact H
    clear H
    have H := H1
    clear H1
    obtain rfl := Option.some.inj H
    go_enter Tryz.func58, Tryz.ntmps58
    go_wp2
    go_ret
    exact ⟨by first | rfl | (simp; done) | (simp [*]; done), by repeat (first | exact Drawn0.refl _ | apply Drawn0.step)⟩

/-! ### impl_withoutRest: function 32, by hand: the lines that this law asks -/
def impl_withoutRest.f_proof (k : Nat) (l : List Int) : Option (ByteArray × List Int) := (impl_ProofClose.f k l).bind fun q => (impl_written.f q.1 q.2).bind fun t => some (t, l)
theorem impl_withoutRest.mono_proof (k : Nat) (l : List Int) : LeO (impl_withoutRest.f_proof k l) (impl_withoutRest.f_proof (k + 1) l) := LeO.bind (impl_ProofClose.mono _ _) (fun _ => LeO.bind (LeO.refl _) (fun _ => LeO.refl _))
set_option maxHeartbeats 8000000 in
set_option maxRecDepth 100000 in
theorem impl_withoutRest.go_proof (k : Nat) (B g : Nat) (A0 : Option Addr) (c0 : Nat) (l0 : List Int) (r : ByteArray) (l1 : List Int) (w : World) (hg : w.heap[g]? = some (.cells #[.slice A0 l0.length c0] 23 (0, 0))) (hr0 : Kd.R (Kd.int .i64) 3 w B (fun _ => True) (.slice A0 l0.length c0) l0) (hB : B ≤ g) (htab_ : TabW w) (h : impl_withoutRest.f_proof k l0 = some (r, l1)) :
    Calls Tryz.prog 32 #[.pointer (some ⟨g, 0, none⟩), .string ⟨#[112, 114, 111, 111, 102]⟩] w fun e w' => e = .returned (.string r) ∧ Ruled w w' B g l1 := by
  have HG := Aside0.mk hg
  have HR := Aside0.mk hr0
  have HB := Aside0.mk (Below.refl w.heap.size w)
  have HBB := Aside0.mk (show B ≤ w.heap.size from Nat.le_trans hB (Nat.le_of_lt (blk_lt hg)))
  have HTAB_ := Aside0.mk htab_
  have cg : _ = some _ := blk_cell hg 0
  clear hg hr0 hB htab_
  obtain ⟨⟨t1, t2⟩, h1, h⟩ := Option.bind_eq_some_iff.mp h
  obtain ⟨t, h2, h⟩ := Option.bind_eq_some_iff.mp h
  simp only [Option.some.injEq, Prod.mk.injEq] at h
  obtain ⟨rfl, rfl⟩ := h
  have A1 := Aside0.mk h1
  have A2 := Aside0.mk h2
  clear h1 h2
  go_enter Tryz.func32, Tryz.ntmps32
  go_wp2_with (first
    | (go_at_call 7; refine (impl_ProofClose.calls k A0 c0 l0 t1 t2 _ (by (with_reducible repeat (first | apply Kd.C_alloc | apply Kd.C_drewN | apply Kd.C_drew)); exact Kd.C_below (Kd.R_reads' HR.out).2.2 (by repeat (first | (with_reducible first | exact HB.out | apply below_alloc | apply pw_below_drewN | apply below_drew1) | exact HB.out))) (Kd.R_reads' HR.out).2.1 A1.out (HTAB_.out.below (by repeat (first | (with_reducible first | exact HB.out | apply below_alloc | apply pw_below_drewN | apply below_drew1) | exact HB.out)))).mono ?_; rintro e w1_ ⟨rfl, hb1⟩; have n0_ := Aside0.mk (below_step (by repeat (first | (with_reducible first | exact HB.out | apply below_alloc | apply pw_below_drewN | apply below_drew1) | exact HB.out)) hb1); clear HB hb1; have HB := n0_; clear n0_)
    | (go_at_call 58; refine (impl_written.calls t1 t2 t _ A2.out).mono ?_; rintro e w1_ ⟨rfl, ⟨⟨n_, rfl⟩⟩⟩; have n0_ := Aside0.mk (pw_below_drewN (by repeat (first | (with_reducible first | exact HB.out | apply below_alloc | apply pw_below_drewN | apply below_drew1) | exact HB.out)) n_); clear HB; have HB := n0_; clear n0_))
  go_ret
  exact ⟨rfl, Ruled.same HG.out HR.out (by repeat (first | (with_reducible first | exact HB.out | apply below_alloc | apply pw_below_drewN | apply below_drew1) | exact HB.out))⟩
def impl_withoutRest.f (k : Nat) (l : List Int) (word : ByteArray) : Option (ByteArray × List Int) :=
  if word = (⟨#[112, 114, 111, 111, 102]⟩ : ByteArray) then impl_withoutRest.f_proof k l else none
theorem impl_withoutRest.mono : ∀ a0 a1 k, LeO (impl_withoutRest.f k a0 a1) (impl_withoutRest.f (k + 1) a0 a1) := fun _ _ _ => LeO.ite (impl_withoutRest.mono_proof _ _) (LeO.refl _)
theorem impl_withoutRest.calls (k : Nat) (B g : Nat) (A0 : Option Addr) (c0 : Nat) (l0 : List Int) (word r : ByteArray) (l1 : List Int) (w : World) (hg : w.heap[g]? = some (.cells #[.slice A0 l0.length c0] 23 (0, 0))) (hr0 : Kd.R (Kd.int .i64) 3 w B (fun _ => True) (.slice A0 l0.length c0) l0) (hB : B ≤ g) (htab_ : TabW w) (h : impl_withoutRest.f k l0 word = some (r, l1)) :
    Calls Tryz.prog 32 #[.pointer (some ⟨g, 0, none⟩), .string word] w fun e w' => e = .returned (.string r) ∧ Ruled w w' B g l1 := by
  unfold impl_withoutRest.f at h
  by_cases d_proof : word = (⟨#[112, 114, 111, 111, 102]⟩ : ByteArray)
  · rw [if_pos d_proof] at h
    subst d_proof
    exact impl_withoutRest.go_proof k B g A0 c0 l0 r l1 w hg hr0 hB htab_ h
  rw [if_neg d_proof] at h
  exact absurd h (by simp)

-- NOT PRINTED: function 33 (strings_Builder_String)

/-! ### impl_Execute: function 9, by hand -/
def impl_Execute.l0 : Nat → List ByteArray → List UInt8 → List Int → Int → Option (List UInt8 × List Int)
  | 0, _, _, _, _ => none
  | k + 1, ls, acc, l, i => if i < (ls.length : Int) then (if 0 ≤ i then (if (rdOf ByteArray.empty ls i).size ≤ 4194304 then (if acc.length ≤ 1048576 then
      (if (strings_Cut.f (rdOf ByteArray.empty ls i)).2.2 = true then
        ((impl_withRest.f k l (strings_Cut.f (rdOf ByteArray.empty ls i)).1 (strings_Cut.f (rdOf ByteArray.empty ls i)).2.1).bind fun r => if r.1.size ≤ 4194304 then impl_Execute.l0 k ls (acc ++ (r.1 ++ (⟨#[10]⟩ : ByteArray)).data.toList) r.2 (wrap64 (i + 1)) else none)
      else
        ((impl_withoutRest.f k l (strings_Cut.f (rdOf ByteArray.empty ls i)).1).bind fun r => if r.1.size ≤ 4194304 then impl_Execute.l0 k ls (acc ++ (r.1 ++ (⟨#[10]⟩ : ByteArray)).data.toList) r.2 (wrap64 (i + 1)) else none))
      else none) else none) else none) else some (acc, l)
def impl_Execute.f (k : Nat) (s : ByteArray) : Option ByteArray := if (s.size : Int) > 600 then some (⟨#[116, 111, 111, 32, 108, 111, 110, 103, 10]⟩ : ByteArray) else
  ((strings_Split.f s (⟨#[10]⟩ : ByteArray)).bind fun ps => if 1 ≤ ps.length ∧ ps.length ≤ 8388608 then
    ((impl_Execute.l0 k (ps.take (ps.length - 1)) [] [3, 4, 5] 0).bind fun r => if r.1.length ≤ 1048576 then ((strconv_Itoa.f (r.2.length : Int)).bind fun t => if t.size ≤ 100 then some ⟨(r.1 ++ (((⟨#[115, 116, 105, 99, 107, 115, 32]⟩ : ByteArray) ++ t) ++ (⟨#[10]⟩ : ByteArray)).data.toList).toArray⟩ else none) else none) else none)
theorem impl_Execute.mono_l : ∀ k, (∀ y0 y1 y2 y3, LeO (impl_Execute.l0 k y0 y1 y2 y3) (impl_Execute.l0 (k + 1) y0 y1 y2 y3))
  | 0 => fun _ _ _ _ r h => by simp [impl_Execute.l0] at h
  | k + 1 => by
    have ih0 := impl_Execute.mono_l k
    intro y0 y1 y2 y3
    rw [impl_Execute.l0, impl_Execute.l0]
    exact LeO.ite (LeO.ite (LeO.ite (LeO.ite (LeO.ite (LeO.bind (impl_withRest.mono _ _ _ _) (fun _ => LeO.ite (ih0 _ _ _ _) (LeO.refl _))) (LeO.bind (impl_withoutRest.mono _ _ _) (fun _ => LeO.ite (ih0 _ _ _ _) (LeO.refl _)))) (LeO.refl _)) (LeO.refl _)) (LeO.refl _)) (LeO.refl _)
theorem impl_Execute.mono : ∀ a0 k, LeO (impl_Execute.f k a0) (impl_Execute.f (k + 1) a0) := fun _ k => LeO.ite (LeO.refl _) (LeO.bind (LeO.refl _) (fun _ => LeO.ite (LeO.bind (impl_Execute.mono_l k _ _ _ _) (fun _ => LeO.refl _)) (LeO.refl _)))
theorem impl_Execute.write (B b : Nat) (acc : List UInt8) (s : ByteArray) (w : World) (h : Lib.IsBuilderF 40 5 B b (Lib.byteCells acc) w) (hl : acc.length + s.size ≤ 140737488355328) (hB : B ≤ w.heap.size) :
    Calls Tryz.prog 30 #[.pointer (some ⟨b, 0, none⟩), .string s] w fun e w' => e = .returned (.tuple #[.int .i64 s.size, .nilIface]) ∧ Lib.IsBuilderF 40 5 B b (Lib.byteCells (acc ++ s.data.toList)) w' ∧ Below B w w' ∧ Lib.OthersKept 5 (some b) w w' := by
  have h0 := Any.Builder_WriteString_k (P := Tryz.prog) (ρ := Go.Proofs.YtcmpkabpmmmhoaaGreatDoor.Shelf.Tryz.lays156_ren) { Go.Proofs.YtcmpkabpmmmhoaaGreatDoor.Shelf.Tryz.lays156 with } Go.Proofs.YtcmpkabpmmmhoaaGreatDoor.Shelf.Tryz.Builder_Extra_156 B b (Lib.byteCells acc) s w h (by rw [Lib.byteCells_length]; exact hl) hB
  refine Calls.mono h0 ?_
  rintro e w' ⟨rfl, h1, h2, h3⟩
  refine ⟨rfl, .inr ?_, h2, h3⟩
  have e1 : Lib.byteCells (acc ++ s.data.toList) = Lib.byteCells acc ++ Lib.strCells s := by simp [Lib.byteCells, Lib.strCells]
  rw [e1]
  exact h1
/-- What holds at the head of a round: the ruler's cell and its list, the builder, the lines. -/
def impl_Execute.Inv (w0 : World) (g b : Nat) (acc : List UInt8) (l : List Int) (w : World) : Prop := Below w0.heap.size w0 w ∧ Lib.IsBuilderF 40 5 w0.heap.size b (Lib.byteCells acc) w ∧ ∃ A c, w.heap[g]? = some (.cells #[.slice A l.length c] 23 (0, 0)) ∧ Kd.R (Kd.int .i64) 3 w w0.heap.size (fun _ => True) (.slice A l.length c) l
/-- What a line's work leaves. -/
theorem impl_Execute.inv_ruled {w0 w w1 : World} {g b : Nat} {acc : List UInt8} {l l1 : List Int} (h : impl_Execute.Inv w0 g b acc l w) (hg : w0.heap.size ≤ g) (hr : Ruled w w1 w0.heap.size g l1) : impl_Execute.Inv w0 g b acc l1 w1 := by
  obtain ⟨h1, h2, A, c, h3, _⟩ := h
  exact ⟨below_ruled h1 hr.1 hg, builder_grown h2 hr.1 h3 (by decide) (by decide), hr.2⟩
theorem impl_Execute.lines_ruled {w0 w w1 : World} {g b : Nat} {acc : List UInt8} {l l1 : List Int} {v : Value} {ls : List ByteArray} (h : impl_Execute.Inv w0 g b acc l w) (hp : Kd.R Kd.string 9 w w0.heap.size (fun _ => True) v ls) (hr : Ruled w w1 w0.heap.size g l1) : Kd.R Kd.string 9 w1 w0.heap.size (fun _ => True) v ls := by
  obtain ⟨h1, h2, A, c, h3, _⟩ := h
  exact R_ruled hp hr.1 h3 (by decide)
/-- What a write to the builder leaves. -/
theorem impl_Execute.inv_wrote {w0 w w1 : World} {g b : Nat} {acc acc1 : List UInt8} {l : List Int} (h : impl_Execute.Inv w0 g b acc l w) (h1 : Lib.IsBuilderF 40 5 w0.heap.size b (Lib.byteCells acc1) w1) (h2 : Below w0.heap.size w w1) (h3 : Lib.OthersKept 5 (some b) w w1) : impl_Execute.Inv w0 g b acc1 l w1 := by
  obtain ⟨g1, g2, A, c, g3, g4⟩ := h
  obtain ⟨cs, hb⟩ := builder_cells g2
  exact ⟨g1.trans h2, h1, A, c, blk_others g3 h3 hb (by decide) (by decide), R_others g4 h3 hb (by decide)⟩
theorem impl_Execute.lines_wrote {w0 w w1 : World} {g b : Nat} {acc : List UInt8} {l : List Int} {v : Value} {ls : List ByteArray} (h : impl_Execute.Inv w0 g b acc l w) (hp : Kd.R Kd.string 9 w w0.heap.size (fun _ => True) v ls) (h3 : Lib.OthersKept 5 (some b) w w1) : Kd.R Kd.string 9 w1 w0.heap.size (fun _ => True) v ls := by
  obtain ⟨g1, g2, _⟩ := h
  obtain ⟨cs, hb⟩ := builder_cells g2
  exact R_others hp h3 hb (by decide)
theorem impl_Execute.inv_below {w0 w w1 : World} {g b : Nat} {acc : List UInt8} {l : List Int} (h : impl_Execute.Inv w0 g b acc l w) (hb : Below w.heap.size w w1) : impl_Execute.Inv w0 g b acc l w1 := by
  obtain ⟨h1, h2, A, c, h3, h4⟩ := h
  exact ⟨below_step h1 hb, builder_below h2 hb, A, c, blk_below h3 hb, Kd.R_below h4 hb⟩
set_option maxHeartbeats 8000000 in
set_option maxRecDepth 100000 in
theorem impl_Execute.calls (k : Nat) (a0 r : ByteArray) (w : World) (h : impl_Execute.f k a0 = some r) (htab_ : TabW w) :
    Calls Tryz.prog 9 #[.string a0] w fun e w' => e = .returned (.string r) ∧ Below w.heap.size w w' := by
  have HTAB_ := Aside0.mk htab_
  clear htab_
  have HB := Aside0.mk (Below.refl w.heap.size w)
  unfold impl_Execute.f at h
  by_cases c0 : (a0.size : Int) > 600
  · rw [if_pos c0] at h
    have c0b0 : decide (600 < (a0.size : Int)) = true := decide_eq_true c0
    have c0b1 : decide (600 < a0.size) = true := decide_eq_true (by omega)
    clear c0
    obtain rfl := Option.some.inj h
    go_enter Tryz.func9, Tryz.ntmps9
    go_wp2
    go_ret
    exact ⟨rfl, HB.out⟩
  · rw [if_neg c0] at h
    have c0b0 : decide (600 < (a0.size : Int)) = false := decide_eq_false c0
    have c0b1 : decide (600 < a0.size) = false := decide_eq_false (by omega)
    clear c0
    obtain ⟨ps, h1, h⟩ := Option.bind_eq_some_iff.mp h
    have A1 := Aside0.mk h1
    clear h1
    by_cases c1 : 1 ≤ ps.length ∧ ps.length ≤ 8388608
    · rw [if_pos c1] at h
      obtain ⟨⟨acc1, l1⟩, h2, h⟩ := Option.bind_eq_some_iff.mp h
      obtain ⟨j, hj⟩ : ∃ j : Int, wrap64 ((ps.length : Int) - 1) = j := ⟨_, rfl⟩
      have hjw : IntKind.i64.wrap ((ps.length : Int) - 1) = j := (i64_w _).trans hj
      have hj1 : j = (ps.length : Int) - 1 := by
        rw [← hj]
        unfold wrap64
        omega
      obtain ⟨ls, hls⟩ : ∃ ls, ps.take (ps.length - 1) = ls := ⟨_, rfl⟩
      rw [hls] at h2
      have HLS := Aside0.mk (show ps.take j.toNat = ls by rw [← hls, hj1]; congr 1; omega)
      have HJ0 := Aside0.mk (show 0 ≤ j ∧ j ≤ (ps.length : Int) by omega)
      clear hj hj1 hls
      have A2 := Aside0.mk h2
      clear h2
      by_cases c2 : acc1.length ≤ 1048576
      · rw [if_pos c2] at h
        obtain ⟨t, h3, h⟩ := Option.bind_eq_some_iff.mp h
        have A3 := Aside0.mk h3
        clear h3
        by_cases c3 : t.size ≤ 100
        · rw [if_pos c3] at h
          have HE := Aside0.mk (Option.some.inj h)
          have C1 := Aside0.mk c1
          have C2 := Aside0.mk c2
          have C3 := Aside0.mk c3
          have hz1 : (9223372036854775807 < 7 + t.size) = False := eq_false (by omega)
          have hz2 : (9223372036854775807 < ((⟨#[115, 116, 105, 99, 107, 115, 32]⟩ : ByteArray) ++ t).size + 1) = False := eq_false (by rw [ByteArray.size_append, show (⟨#[115, 116, 105, 99, 107, 115, 32]⟩ : ByteArray).size = 7 from rfl]; omega)
          have hz3 : (9223372036854775807 < 7 + t.size + 1) = False := eq_false (by omega)
          clear h c1 c2 c3
          obtain ⟨acc0, hacc0⟩ : ∃ y_ : List UInt8, y_ = ([] : List UInt8) := ⟨_, rfl⟩
          obtain ⟨l0, hl0⟩ : ∃ y_ : List Int, y_ = ([3, 4, 5] : List Int) := ⟨_, rfl⟩
          have A2 : Aside0 (impl_Execute.l0 k ls acc0 l0 0 = some (acc1, l1)) := ⟨by rw [hacc0, hl0]; exact A2.out⟩
          have NA := Aside0.mk hacc0
          have NL := Aside0.mk hl0
          clear hacc0 hl0
          go_enter Tryz.func9, Tryz.ntmps9
          go_wp2_with (first
            | ((with_reducible refine gate_dst (N := 14) rfl ?_); refine Kd.R_lit (Kd.int .i64) _ 3 ?hg (N := 14) ?hd (xs := ([3, 4, 5] : List Int)) (inner := [.int .i64 3, .int .i64 4, .int .i64 5]) (ok := fun _ => True) (okp := fun _ => True) ?hr ?hp (fun _ hk => hk) trivial (Below.refl _ _) (Nat.le_refl _) (by simp) ?_; (case hd => rfl); (case hg => rfl); (case hr => first | (go_simp; done) | (go_simp; rfl)); (case hp => exact (Reps.one (show Kd.M (Kd.int .i64) _ _ _ 3 [.int .i64 3] from rfl) (Reps.one (show Kd.M (Kd.int .i64) _ _ _ 4 [.int .i64 4] from rfl) (Reps.one (show Kd.M (Kd.int .i64) _ _ _ 5 [.int .i64 5] from rfl) (Reps.none _ _))))); intro v14 w14 ho hb hg_ hnew_; clear hg_ hnew_; rw [← NL.out] at ho; have HO := Aside0.mk ho; have n1_ := Aside0.mk hb; clear HB; have HB := n1_; clear n1_ ho hb; obtain ⟨A14, c14, rfl⟩ := Kd.R_slice HO.out)
            | ((with_reducible refine gate_dst (N := 3) rfl ?_); refine box_event ?hg (N := 3) ?hd (cs := #[.slice none 0 0]) (t := 23) ?hr ?_; (case hd => rfl); (case hg => rfl); (case hr => first | (go_simp; done) | (go_simp; rfl)); intro g hg w3 hbox hb; have GE := Aside0.mk (show w.heap.size ≤ g by rw [hg]; exact HB.out.size); have n0_ := Aside0.mk (below_step HB.out hb); have n2_ := Aside0.mk (Kd.R_below HO.out hb); have BK := Aside0.mk hbox; have cg : _ = some _ := blk_cell hbox 0; have fg := blk_frozen hbox 0; clear hg hb hbox HB HO; have HB := n0_; have HO := n2_; clear n0_ n2_)
            | ((with_reducible refine gate_dst (N := 4) rfl ?_); refine box_event ?hg (N := 4) ?hd (cs := #[.pointer none, .slice none 0 0]) (t := 40) ?hr ?_; (case hd => rfl); (case hg => rfl); (case hr => first | (go_simp; done) | (go_simp; rfl)); intro b hg w4 hbox hb; have GB := Aside0.mk (show w.heap.size ≤ b by rw [hg]; exact (below_set HB.out GE.out).size); have HI : Aside0 (impl_Execute.Inv w g b acc0 l0 w4) := ⟨⟨below_step (below_set HB.out GE.out) hb, by rw [NA.out]; exact .inl ⟨GB.out, .slice none 0 0, hbox, World.ownsRowF_nil _ _ _ _, by simp [Value.ownBlock]⟩, A14, c14, blk_below (blk_put BK.out 0 _ rfl) hb, Kd.R_below (Kd.R_set HO.out BK.out (by decide) 0 _) hb⟩⟩; clear hg hb hbox HB HO BK cg fg)
            | (go_at_call 28; refine (strings_Split.calls a0 (⟨#[10]⟩ : ByteArray) ps _ A1.out).mono ?_; rintro e w2 ⟨v2, rfl, hr2, hb2⟩; have n0_ := Aside0.mk (impl_Execute.inv_below HI.out hb2); have n2_ := Aside0.mk (Kd.R_lower hr2 HI.out.1.size); clear HI hr2 hb2; have HI := n0_; have HP := n2_; clear n0_ n2_; obtain ⟨Ap, cp, rfl⟩ := Kd.R_slice HP.out; obtain ⟨i9, hi9, _, hsz9, _⟩ := info_parts info9; have hsl := (print_take_of (P := Tryz.prog) Value.string ByteArray.empty 41 9 .i64 Tryz.underlying41 hi9 hsz9 Ap cp ps j HJ0.out.1 HJ0.out.2 (Kd.R_reads' HP.out).2.1).1; rw [HLS.out] at hsl; have hp2 := Kd.R_take (m := j.toNat) HP.out (by have := HJ0.out.1; have := HJ0.out.2; omega); rw [HLS.out] at hp2; clear hi9 hsz9 HP; have HP := Aside0.mk hp2; clear hp2; obtain ⟨n9, hn9⟩ : ∃ n9 : Nat, n9 = j.toNat := ⟨_, rfl⟩; rw [← hn9] at HP; have hn9' : n9 = ls.length := (Kd.R_reads' HP.out).1; rw [hn9'] at HP; clear hn9 hn9'))
          go_loopg [23] k (fun kq v23 w' => ∃ (acc : List UInt8) (l : List Int) (i : Int), v23 = .int .i64 i ∧ Aside0 (impl_Execute.l0 kq ls acc l i = some (acc1, l1)) ∧ Aside0 (kq ≤ k) ∧ Aside0 (impl_Execute.Inv w g b acc l w') ∧ Aside0 (Kd.R Kd.string 9 w' w.heap.size (fun _ => True) (.slice Ap ls.length cp) ls))
          case atStart => exact ⟨acc0, l0, 0, (by first | rfl | (simp; done) | (simp [*]; done)), A2, ⟨Nat.le_refl _⟩, HI, HP⟩
          case round =>
            clear A2 HI HP hsl
            obtain ⟨acc, l, i, rfl, HA, HK, HI, HP⟩ := hrel
            obtain ⟨wo, rfl⟩ : ∃ x : World, x = wr := ⟨wr, rfl⟩
            cases gk with
            | zero => exact absurd HA.out (by simp [impl_Execute.l0])
            | succ k1 =>
              have H := HA.out
              clear HA
              rw [impl_Execute.l0] at H
              by_cases d1 : i < (ls.length : Int)
              · rw [if_pos d1] at H
                have d1b : decide (i < (ls.length : Int)) = true := decide_eq_true d1
                by_cases d2 : 0 ≤ i
                · rw [if_pos d2] at H
                  have d2b : decide (0 ≤ i) = true := decide_eq_true d2
                  obtain ⟨ad, ea, hx⟩ := Kd.at_string (Kd.R_reads' HP.out).2.2 i d2 d1
                  cases ea
                  have hlt := World.block_lt_of_cell? _ _ hx
                  obtain ⟨p, hp⟩ : ∃ x, x = rdOf ByteArray.empty ls i := ⟨_, rfl⟩
                  rw [← hp] at hx H
                  clear hp
                  have e1 := eq_true d1
                  have e2 := eq_true d2
                  clear d1 d2
                  by_cases d3 : p.size ≤ 4194304
                  · rw [if_pos d3] at H
                    by_cases d4 : acc.length ≤ 1048576
                    · rw [if_pos d4] at H
                      have D3 := Aside0.mk d3
                      have D4 := Aside0.mk d4
                      clear d3 d4
                      have hcut := strings_Cut.calls p
                      obtain ⟨⟨q1, q2, q3⟩, hq⟩ : ∃ q, strings_Cut.f p = q := ⟨_, rfl⟩
                      rw [hq] at H
                      simp only [hq] at hcut
                      have HCUT := Aside0.mk hcut
                      clear hq hcut
                      by_cases d5 : q3 = true
                      · rw [if_pos d5] at H
                        subst d5
                        obtain ⟨⟨s1, l2⟩, h5, H⟩ := Option.bind_eq_some_iff.mp H
                        simp only at h5 H
                        have A5 := Aside0.mk h5
                        clear h5
                        by_cases d6 : s1.size ≤ 4194304
                        · rw [if_pos d6] at H
                          have D6 := Aside0.mk d6
                          have hz5 : (9223372036854775807 < s1.size + 1) = False := eq_false (by omega)
                          obtain ⟨s2, hs2⟩ : ∃ s2, s2 = s1 ++ (⟨#[10]⟩ : ByteArray) := ⟨_, rfl⟩
                          rw [← hs2] at H
                          have HS2 := Aside0.mk hs2
                          have H' := Aside0.mk H
                          clear d6 hs2 H
                          go_wp2_with (first
                            | (go_at_call 29; refine (HCUT.out _ D3.out).mono ?_; rintro e w5 ⟨rfl, ⟨⟨n5, rfl⟩⟩⟩; have n0_ := Aside0.mk (impl_Execute.inv_below HI.out (pw_below_drewN (Below.refl _ _) n5)); have n1_ := Aside0.mk (Kd.R_drewN HP.out n5); clear HI HP; have HI := n0_; have HP := n1_; clear n0_ n1_; obtain ⟨A7, c7, HG7, HR7⟩ : ∃ A c, Aside0 ((wo.drewN n5).heap[g]? = some (.cells #[.slice A l.length c] 23 (0, 0))) ∧ Aside0 (Kd.R (Kd.int .i64) 3 (wo.drewN n5) w.heap.size (fun _ => True) (.slice A l.length c) l) := (by obtain ⟨_, _, A, c, h1, h2⟩ := HI.out; exact ⟨A, c, ⟨h1⟩, ⟨h2⟩⟩))
                            | (go_at_call 31; refine (impl_withRest.calls k1 w.heap.size g A7 c7 l q1 q2 s1 l2 _ HG7.out HR7.out GE.out (HTAB_.out.below HI.out.1) A5.out).mono ?_; rintro e w6 ⟨rfl, hr6⟩; have n0_ := Aside0.mk (impl_Execute.inv_ruled HI.out GE.out hr6); have n1_ := Aside0.mk (impl_Execute.lines_ruled HI.out HP.out hr6); clear HI HP HG7 HR7 hr6; have HI := n0_; have HP := n1_; clear n0_ n1_)
                            | (go_at_call 30; rw [← HS2.out]; refine (impl_Execute.write w.heap.size b acc s2 _ HI.out.2.1 (by have := D4.out; have := D6.out; rw [HS2.out, ByteArray.size_append, show (⟨#[10]⟩ : ByteArray).size = 1 from rfl]; omega) HI.out.1.size).mono ?_; rintro e w7 ⟨rfl, hi7, hb7, hk7⟩; have n0_ := Aside0.mk (impl_Execute.inv_wrote HI.out hi7 hb7 hk7); have n1_ := Aside0.mk (impl_Execute.lines_wrote HI.out HP.out hk7); clear HI HP hi7 hb7 hk7; have HI := n0_; have HP := n1_; clear n0_ n1_))
                          go_roundg k1
                          case measure => have := HK.out; omega
                          case rel => exact ⟨_, l2, wrap64 (i + 1), (by first | rfl | (simp; done) | (simp [*]; done)), H', ⟨by have := HK.out; omega⟩, HI, HP⟩
                        · rw [if_neg d6] at H
                          exact absurd H (by simp)
                      · rw [if_neg d5] at H
                        replace d5 := Bool.eq_false_iff.mpr d5
                        subst d5
                        obtain ⟨⟨s1, l2⟩, h5, H⟩ := Option.bind_eq_some_iff.mp H
                        simp only at h5 H
                        have A5 := Aside0.mk h5
                        clear h5
                        by_cases d6 : s1.size ≤ 4194304
                        · rw [if_pos d6] at H
                          have D6 := Aside0.mk d6
                          have hz5 : (9223372036854775807 < s1.size + 1) = False := eq_false (by omega)
                          obtain ⟨s2, hs2⟩ : ∃ s2, s2 = s1 ++ (⟨#[10]⟩ : ByteArray) := ⟨_, rfl⟩
                          rw [← hs2] at H
                          have HS2 := Aside0.mk hs2
                          have H' := Aside0.mk H
                          clear d6 hs2 H
                          go_wp2_with (first
                            | (go_at_call 29; refine (HCUT.out _ D3.out).mono ?_; rintro e w5 ⟨rfl, ⟨⟨n5, rfl⟩⟩⟩; have n0_ := Aside0.mk (impl_Execute.inv_below HI.out (pw_below_drewN (Below.refl _ _) n5)); have n1_ := Aside0.mk (Kd.R_drewN HP.out n5); clear HI HP; have HI := n0_; have HP := n1_; clear n0_ n1_; obtain ⟨A7, c7, HG7, HR7⟩ : ∃ A c, Aside0 ((wo.drewN n5).heap[g]? = some (.cells #[.slice A l.length c] 23 (0, 0))) ∧ Aside0 (Kd.R (Kd.int .i64) 3 (wo.drewN n5) w.heap.size (fun _ => True) (.slice A l.length c) l) := (by obtain ⟨_, _, A, c, h1, h2⟩ := HI.out; exact ⟨A, c, ⟨h1⟩, ⟨h2⟩⟩))
                            | (go_at_call 32; refine (impl_withoutRest.calls k1 w.heap.size g A7 c7 l q1 s1 l2 _ HG7.out HR7.out GE.out (HTAB_.out.below HI.out.1) A5.out).mono ?_; rintro e w6 ⟨rfl, hr6⟩; have n0_ := Aside0.mk (impl_Execute.inv_ruled HI.out GE.out hr6); have n1_ := Aside0.mk (impl_Execute.lines_ruled HI.out HP.out hr6); clear HI HP HG7 HR7 hr6; have HI := n0_; have HP := n1_; clear n0_ n1_)
                            | (go_at_call 30; rw [← HS2.out]; refine (impl_Execute.write w.heap.size b acc s2 _ HI.out.2.1 (by have := D4.out; have := D6.out; rw [HS2.out, ByteArray.size_append, show (⟨#[10]⟩ : ByteArray).size = 1 from rfl]; omega) HI.out.1.size).mono ?_; rintro e w7 ⟨rfl, hi7, hb7, hk7⟩; have n0_ := Aside0.mk (impl_Execute.inv_wrote HI.out hi7 hb7 hk7); have n1_ := Aside0.mk (impl_Execute.lines_wrote HI.out HP.out hk7); clear HI HP hi7 hb7 hk7; have HI := n0_; have HP := n1_; clear n0_ n1_))
                          go_roundg k1
                          case measure => have := HK.out; omega
                          case rel => exact ⟨_, l2, wrap64 (i + 1), (by first | rfl | (simp; done) | (simp [*]; done)), H', ⟨by have := HK.out; omega⟩, HI, HP⟩
                        · rw [if_neg d6] at H
                          exact absurd H (by simp)
                    · rw [if_neg d4] at H
                      exact absurd H (by simp)
                  · rw [if_neg d3] at H
                    exact absurd H (by simp)
                · rw [if_neg d2] at H
                  exact absurd H (by simp)
              · rw [if_neg d1] at H
                have d1b : decide (i < (ls.length : Int)) = false := decide_eq_false d1
                clear d1
                simp only [Option.some.injEq, Prod.mk.injEq] at H
                obtain ⟨rfl, rfl⟩ := H
                obtain ⟨A7, c7, HG7⟩ : ∃ A c, Aside0 (wo.heap[g]? = some (.cells #[.slice A l.length c] 23 (0, 0))) := (by obtain ⟨_, _, A, c, h1, h2⟩ := HI.out; exact ⟨A, c, ⟨h1⟩⟩)
                have cg : _ = some _ := blk_cell HG7.out 0
                obtain ⟨s2, hs2⟩ : ∃ s2, s2 = ((⟨#[115, 116, 105, 99, 107, 115, 32]⟩ : ByteArray) ++ t) ++ (⟨#[10]⟩ : ByteArray) := ⟨_, rfl⟩
                have HS2 := Aside0.mk hs2
                clear hs2
                go_wp2_with (first
                  | (go_at_call 22; refine (strconv_Itoa.calls (l.length : Int) t _ A3.out (HTAB_.out.below HI.out.1)).mono ?_; rintro e w8 ⟨rfl, hb8⟩; have n0_ := Aside0.mk (impl_Execute.inv_below HI.out hb8); clear HI hb8; have HI := n0_; clear n0_)
                  | (go_at_call 30; rw [← HS2.out]; refine (impl_Execute.write w.heap.size b acc s2 _ HI.out.2.1 (by have := C2.out; have := C3.out; rw [HS2.out, ByteArray.size_append, ByteArray.size_append, show (⟨#[10]⟩ : ByteArray).size = 1 from rfl, show (⟨#[115, 116, 105, 99, 107, 115, 32]⟩ : ByteArray).size = 7 from rfl]; omega) HI.out.1.size).mono ?_; rintro e w9 ⟨rfl, hi9, hb9, hk9⟩; have n0_ := Aside0.mk (impl_Execute.inv_wrote HI.out hi9 hb9 hk9); clear HI hi9 hb9 hk9; have HI := n0_; clear n0_)
                  | (go_at_call 33; refine (Go.Proofs.YtcmpkabpmmmhoaaGreatDoor.Shelf.Tryz.Builder_String_any_k w.heap.size b _ _ HI.out.2.1 HI.out.1.size).mono ?_; rintro e w10 ⟨rfl, hi10, hb10, hk10⟩; have HB2 := Aside0.mk (HI.out.1.trans hb10); clear HI hi10 hb10 hk10))
                go_ret
                exact ⟨(by rw [← HE.out, HS2.out]; rfl), HB2.out⟩
        · rw [if_neg c3] at h
          exact absurd h (by simp)
      · rw [if_neg c2] at h
        exact absurd h (by simp)
    · rw [if_neg c1] at h
      exact absurd h (by simp)

end Go.Proofs.YtcmpkabpmmmhoaaGreatDoor.PFnExecuteProof
