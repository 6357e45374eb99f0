/- Written by a program of this claim out of the translation: plain Lean functions and their contracts; what is proved: each Go function of this text comes to what its Lean function says. -/
import Derived.Test.YtcmpkabpmmmhoaaGreatDoorPFnExecuteTidyx0
import Derived.Test.YtcmpkabpmmmhoaaGreatDoorPFnExecuteTidyx5
namespace Go.Proofs.YtcmpkabpmmmhoaaGreatDoor.PFnExecuteTidy
open Go.RowKit Go.Proofs.YtcmpkabpmmmhoaaGreatDoorW.PrintWords Go.Proofs.YtcmpkabpmmmhoaaGreatDoorW.PrintLast Go.Proofs.YtcmpkabpmmmhoaaGreatDoorW.PrintMore
attribute [local go_sem] max2_int min2_int max_two min_two max_three min_three max_four min_four   -- for this text's walks alone
set_option linter.unusedVariables false
set_option linter.unusedSimpArgs false

/-! ### spec_l10Tidy: function 47 -/
mutual
def spec_l10Tidy.j1 : Nat → Int → Bool → Int → List (S67) → Option (ByteArray)
  | 0, _, _, _, _ => none
  | k + 1, x1, x2, x206000, x206001 => (spec_l10Turned.f k x206000 x1).bind fun t223 => (if x2 = true then ((spec_l10Turned.f k t223 2).bind fun t224 => (some (strOfNums (([t224] : List Int))))) else (some (strOfNums (([t223] : List Int)))))
def spec_l10Tidy.j0 : Nat → Int → Bool → Bool → Int → List (S67) → Option (ByteArray)
  | 0, _, _, _, _, _ => none
  | k + 1, x1, x2, x33, x206000, x206001 => if x33 = true then (if 1 < (x206001.length : Int) then ((spec_l10Tidy.f k ((rd_T67 x206001 1).f0) ((rd_T67 x206001 1).f1) x1 x2).bind fun t211 => (if 1 + t211.size ≤ 9223372036854775807 then (if ((⟨#[40]⟩ : ByteArray) ++ t211).size + 1 ≤ 9223372036854775807 then (if 0 < (x206001.length : Int) then ((spec_l10Tidy.f k ((rd_T67 x206001 0).f0) ((rd_T67 x206001 0).f1) x1 x2).bind fun t213 => (if (((⟨#[40]⟩ : ByteArray) ++ t211) ++ (⟨#[43]⟩ : ByteArray)).size + t213.size ≤ 9223372036854775807 then (if ((((⟨#[40]⟩ : ByteArray) ++ t211) ++ (⟨#[43]⟩ : ByteArray)) ++ t213).size + 1 ≤ 9223372036854775807 then (some (((((⟨#[40]⟩ : ByteArray) ++ t211) ++ (⟨#[43]⟩ : ByteArray)) ++ t213) ++ (⟨#[41]⟩ : ByteArray))) else (none)) else (none))) else (none)) else (none)) else (none))) else (none)) else (if x206000 = 43 then (if 0 < (x206001.length : Int) then ((spec_l10Tidy.f k ((rd_T67 x206001 0).f0) ((rd_T67 x206001 0).f1) x1 x2).bind fun t215 => (if 1 + t215.size ≤ 9223372036854775807 then (if ((⟨#[40]⟩ : ByteArray) ++ t215).size + 1 ≤ 9223372036854775807 then (if 1 < (x206001.length : Int) then ((spec_l10Tidy.f k ((rd_T67 x206001 1).f0) ((rd_T67 x206001 1).f1) x1 x2).bind fun t217 => (if (((⟨#[40]⟩ : ByteArray) ++ t215) ++ (⟨#[43]⟩ : ByteArray)).size + t217.size ≤ 9223372036854775807 then (if ((((⟨#[40]⟩ : ByteArray) ++ t215) ++ (⟨#[43]⟩ : ByteArray)) ++ t217).size + 1 ≤ 9223372036854775807 then (some (((((⟨#[40]⟩ : ByteArray) ++ t215) ++ (⟨#[43]⟩ : ByteArray)) ++ t217) ++ (⟨#[41]⟩ : ByteArray))) else (none)) else (none))) else (none)) else (none)) else (none))) else (none)) else (if x206000 ≥ 50 then (if x206000 ≤ 57 then ((some (([x206000] : List Int) : List Int)).bind fun y218 => (if 0 < (x206001.length : Int) then ((spec_l10Tidy.f k ((rd_T67 x206001 0).f0) ((rd_T67 x206001 0).f1) x1 x2).bind fun t222 => (if (strOfNums y218).size + t222.size ≤ 9223372036854775807 then (some ((strOfNums y218) ++ t222)) else (none))) else (none))) else (spec_l10Tidy.j1 k x1 x2 x206000 x206001)) else (spec_l10Tidy.j1 k x1 x2 x206000 x206001)))
def spec_l10Tidy.f : Nat → Int → List (S67) → Int → Bool → Option (ByteArray)
  | 0, _, _, _, _ => none
  | k + 1, a0_0, l0_1, a1, a2 => if a0_0 = 45 then (if 0 < (l0_1.length : Int) then ((spec_l10Tidy.f k ((rd_T67 l0_1 0).f0) ((rd_T67 l0_1 0).f1) a1 (!a2)).bind fun t207 => (some t207)) else (none)) else (if a0_0 = 64 then (if 0 < (l0_1.length : Int) then ((spec_l10Tidy.f k ((rd_T67 l0_1 0).f0) ((rd_T67 l0_1 0).f1) (Int.tmod (wrap64 (a1 + 1)) 4) a2).bind fun t209 => (some t209)) else (none)) else (if a0_0 = 43 then (spec_l10Tidy.j0 k a1 a2 a2 a0_0 l0_1) else (spec_l10Tidy.j0 k a1 a2 false a0_0 l0_1)))
end
theorem spec_l10Tidy.mono_l : ∀ k, (∀ y0 y1 y2 y3, LeO (spec_l10Tidy.f k y0 y1 y2 y3) (spec_l10Tidy.f (k + 1) y0 y1 y2 y3)) ∧ (∀ y0 y1 y2 y3, LeO (spec_l10Tidy.j1 k y0 y1 y2 y3) (spec_l10Tidy.j1 (k + 1) y0 y1 y2 y3)) ∧ (∀ y0 y1 y2 y3 y4, LeO (spec_l10Tidy.j0 k y0 y1 y2 y3 y4) (spec_l10Tidy.j0 (k + 1) y0 y1 y2 y3 y4))
  | 0 => ⟨fun _ _ _ _ r h => by simp [spec_l10Tidy.f] at h, fun _ _ _ _ r h => by simp [spec_l10Tidy.j1] at h, fun _ _ _ _ _ r h => by simp [spec_l10Tidy.j0] at h⟩
  | k + 1 => by
    obtain ⟨ih0, ih1, ih2⟩ := spec_l10Tidy.mono_l k
    refine ⟨?_, ?_, ?_⟩
    · intro y0 y1 y2 y3
      unfold spec_l10Tidy.f
      repeat' first
      | (with_reducible exact ih0 _ _ _ _)
      | (with_reducible exact ih1 _ _ _ _)
      | (with_reducible exact ih2 _ _ _ _ _)
      | (with_reducible exact spec_l10Turned.mono _ _ _)
      | (with_reducible exact LeO.refl _)
      | (with_reducible exact LeO.none _)
      | (with_reducible refine LeO.ite ?_ ?_)
      | (with_reducible refine LeO.bind ?_ (fun _ => ?_))
      | exact ih0 _ _ _ _
      | exact ih1 _ _ _ _
      | exact ih2 _ _ _ _ _
      | exact spec_l10Turned.mono _ _ _
      | exact LeO.none _
      | refine LeO.ite ?_ ?_
      | refine LeO.bind ?_ (fun _ => ?_)
    · intro y0 y1 y2 y3
      unfold spec_l10Tidy.j1
      repeat' first
      | (with_reducible exact ih0 _ _ _ _)
      | (with_reducible exact ih1 _ _ _ _)
      | (with_reducible exact ih2 _ _ _ _ _)
      | (with_reducible exact spec_l10Turned.mono _ _ _)
      | (with_reducible exact LeO.refl _)
      | (with_reducible exact LeO.none _)
      | (with_reducible refine LeO.ite ?_ ?_)
      | (with_reducible refine LeO.bind ?_ (fun _ => ?_))
      | exact ih0 _ _ _ _
      | exact ih1 _ _ _ _
      | exact ih2 _ _ _ _ _
      | exact spec_l10Turned.mono _ _ _
      | exact LeO.none _
      | refine LeO.ite ?_ ?_
      | refine LeO.bind ?_ (fun _ => ?_)
    · intro y0 y1 y2 y3 y4
      unfold spec_l10Tidy.j0
      repeat' first
      | (with_reducible exact ih0 _ _ _ _)
      | (with_reducible exact ih1 _ _ _ _)
      | (with_reducible exact ih2 _ _ _ _ _)
      | (with_reducible exact spec_l10Turned.mono _ _ _)
      | (with_reducible exact LeO.refl _)
      | (with_reducible exact LeO.none _)
      | (with_reducible refine LeO.ite ?_ ?_)
      | (with_reducible refine LeO.bind ?_ (fun _ => ?_))
      | exact ih0 _ _ _ _
      | exact ih1 _ _ _ _
      | exact ih2 _ _ _ _ _
      | exact spec_l10Turned.mono _ _ _
      | exact LeO.none _
      | refine LeO.ite ?_ ?_
      | refine LeO.bind ?_ (fun _ => ?_)
theorem spec_l10Tidy.mono : ∀ a0 a1 a2 a3 k, LeO (spec_l10Tidy.f k a0 a1 a2 a3) (spec_l10Tidy.f (k + 1) a0 a1 a2 a3) := by
  intro a0 a1 a2 a3 k
  obtain ⟨ih0, ih1, ih2⟩ := spec_l10Tidy.mono_l k
  exact ih0 a0 a1 a2 a3
def spec_l10Tidy.T6 : Bool × List (List Nat × List Nat) := (true, [([], []), ([0], [0]), ([1], [1]), ([2], [2]), ([], []), ([], []), ([3, 4, 5], [3, 4, 5]), ([6], [6]), ([7], [7]), ([], []), ([9], [9]), ([10], [10]), ([11], [11]), ([], []), ([], []), ([12, 13, 14, 6], [12, 13, 14]), ([8, 15], [8, 15]), ([16], [16]), ([17, 15, 0, 1, 2, 3, 4, 5, 6, 7, 8, 9, 10, 11, 12, 13, 14, 15, 16, 17], [17])])
def spec_l10Tidy.B6 : List Nat := [0, 1, 3, 7, 0, 0, 63, 127, 255, 0, 512, 1536, 3584, 0, 0, 32383, 65535, 131071, 262143]
theorem spec_l10Tidy.tab6 : rtab .any (opsOf Tryz.f47 6) = spec_l10Tidy.T6 := by kernel_rfl
theorem spec_l10Tidy.bits6 : waitsOk spec_l10Tidy.T6.2 spec_l10Tidy.B6 = true := by kernel_rfl
def spec_l10Tidy.T8 : Bool × List (List Nat × List Nat) := (true, [([], []), ([0], [0]), ([1], [1]), ([2], [2]), ([], []), ([], []), ([3, 4, 5], [3, 4, 5]), ([6], [6]), ([7], [7]), ([], []), ([9], [9]), ([10], [10]), ([11], [11]), ([], []), ([], []), ([12, 13, 14, 6], [12, 13, 14]), ([8, 15], [8, 15]), ([16], [16]), ([17, 15, 0, 1, 2, 3, 4, 5, 6, 7, 8, 9, 10, 11, 12, 13, 14, 15, 16, 17], [17])])
def spec_l10Tidy.B8 : List Nat := [0, 1, 3, 7, 0, 0, 63, 127, 255, 0, 512, 1536, 3584, 0, 0, 32383, 65535, 131071, 262143]
theorem spec_l10Tidy.tab8 : rtab .any (opsOf Tryz.f47 8) = spec_l10Tidy.T8 := by kernel_rfl
theorem spec_l10Tidy.bits8 : waitsOk spec_l10Tidy.T8.2 spec_l10Tidy.B8 = true := by kernel_rfl
def spec_l10Tidy.T10 : Bool × List (List Nat × List Nat) := (true, [([], []), ([0], [0]), ([1], [1]), ([2], [2]), ([], []), ([4], [4]), ([5], [5]), ([6], [6]), ([], []), ([], []), ([7, 8, 9], [7, 8, 9]), ([3, 10], [3, 10]), ([11, 10, 0, 1, 2, 3, 4, 5, 6, 7, 8, 9, 10, 11], [11])])
def spec_l10Tidy.B10 : List Nat := [0, 1, 3, 7, 0, 16, 48, 112, 0, 0, 1008, 2047, 4095]
theorem spec_l10Tidy.tab10 : rtab .any (opsOf Tryz.f47 10) = spec_l10Tidy.T10 := by kernel_rfl
theorem spec_l10Tidy.bits10 : waitsOk spec_l10Tidy.T10.2 spec_l10Tidy.B10 = true := by kernel_rfl
set_option maxHeartbeats 8000000 in
set_option maxRecDepth 100000 in
theorem spec_l10Tidy.calls (k : Nat) : ∀ (a0_0 : Int) (A0_1 : Option Addr) (c0_1 : Nat) (l0_1 : List (S67)) (a1 : Int) (a2 : Bool) (r : ByteArray) (w : World) (hr0_1 : Kd.C k67 w A0_1 l0_1.length l0_1) (hc0_1 : l0_1.length ≤ c0_1) (h : spec_l10Tidy.f k a0_0 l0_1 a1 a2 = some r),
    Calls Tryz.prog 47 #[.agg #[.int .u8 a0_0, .slice A0_1 l0_1.length c0_1], .int .i64 a1, .bool a2] w fun e w' => e = .returned (.string r) ∧ Below w.heap.size w w' := by
  induction k using Nat.strongRecOn with
  | _ k ih =>
  intro a0_0 A0_1 c0_1 l0_1 a1 a2 r w hr0_1 hc0_1 h
  cases k with
  | zero => exact absurd h (by simp [spec_l10Tidy.f])
  | succ k =>
  simp only [spec_l10Tidy.f] at h
  have hu67 := Tryz.underlying67
  have HR0_1 := Aside0.mk hr0_1
  have HC0_1 := Aside0.mk hc0_1
  clear hr0_1 hc0_1
  have HB := Aside0.mk (Below.refl w.heap.size w)
  have H : (if a0_0 = 45 then (if 0 < (l0_1.length : Int) then ((spec_l10Tidy.f k ((rd_T67 l0_1 0).f0) ((rd_T67 l0_1 0).f1) a1 (!a2)).bind fun t207 => (some t207)) else (none)) else (if a0_0 = 64 then (if 0 < (l0_1.length : Int) then ((spec_l10Tidy.f k ((rd_T67 l0_1 0).f0) ((rd_T67 l0_1 0).f1) (Int.tmod (wrap64 (a1 + 1)) 4) a2).bind fun t209 => (some t209)) else (none)) else (if a0_0 = 43 then (spec_l10Tidy.j0 k a1 a2 a2 a0_0 l0_1) else (spec_l10Tidy.j0 k a1 a2 false a0_0 l0_1)))) = some r := h
  clear h
  have HC4 := Aside0.mk H
  clear H
  go_enter Tryz.func47, Tryz.ntmps47
  go_upto_block 0 with (first | ((with_reducible refine gate_dst (N := 3) rfl ?_); refine box_event ?hg (N := 3) ?hd (cs := #[.int .u8 a0_0, .slice A0_1 l0_1.length c0_1]) (t := 67) ?hr ?_; (case hd => rfl); (case hg => rfl); (case hr => first | (go_simp; done) | (go_simp; rfl)); intro gb205 hg w5 hbox hb; have n0_ := Aside0.mk (below_step (by repeat (first | (with_reducible first | exact HB.out | apply below_alloc | apply pw_below_drewN | apply below_drew1) | exact HB.out)) hb); have n1_ := Aside0.mk (hbox); have n2_ := Aside0.mk ((by rw [hg]; exact (below_size (by repeat (first | (with_reducible first | exact HB.out | apply below_alloc | apply pw_below_drewN | apply below_drew1) | exact HB.out))) : w.heap.size ≤ gb205)); have n3_ := Aside0.mk ((by rw [hg]; exact (below_size (by repeat (first | (with_reducible first | exact HB.out | apply below_alloc | apply pw_below_drewN | apply below_drew1) | exact HB.out))) : w.heap.size ≤ gb205)); clear HB; have HB := n0_; have BK205 := n1_; have GW205 := n2_; have GE205 := n3_; clear n0_ n1_ n2_ n3_; clear hb hbox hg))
  (try simp only [Act.put, List.setIfInBounds_toArray, List.set_cons_zero, List.set_cons_succ])
  go_cut [] (fun wc => ∃ (kq : Nat), Aside0 (spec_l10Tidy.j1 kq a1 a2 a0_0 l0_1 = some r) ∧ Aside0 (kq ≤ k) ∧ Aside0 (wc.heap[gb205]? = some (.cells #[.int .u8 a0_0, (.slice A0_1 l0_1.length c0_1)] 67 (0, 0))) ∧ Aside0 (Below w.heap.size w wc))
  case first =>
    have H := HC4.out
    clear HC4
    by_cases c6 : a0_0 = 45
    · rw [if_pos c6] at H
      have c6b0 : (a0_0 == 45) = true := beq_iff_eq.mpr c6
      have c6b1 : (a0_0 != 45) = false := bne_eq_false_iff_eq.mpr c6
      clear c6
      (first | rw [c6b0] | (simp only [i64_w, i32_w]; rw [c6b0]) | skip)
      by_cases c7 : 0 < (l0_1.length : Int)
      · rw [if_pos c7] at H
        have c7b0 : decide (0 < (l0_1.length : Int)) = true := decide_eq_true c7
        have c7b1 : decide (0 < l0_1.length) = true := decide_eq_true (by omega)
        clear c7
        replace H := Option.bind_eq_some_iff.mp H
        obtain ⟨t207, A80, H⟩ := H
        replace H : (some t207) = some r := H
        have A8 := Aside0.mk A80
        clear A80
        obtain rfl := Option.some.inj H
        have hcz9_0 : w5.cell? ⟨gb205, 0, none⟩ = some (.int .u8 a0_0) := (blk_cell BK205.out 0).trans rfl
        have hcz9_1 : w5.cell? ⟨gb205, 1, none⟩ = some (.slice A0_1 l0_1.length c0_1) := (blk_cell BK205.out 1).trans rfl
        have hfz9_0 := blk_frozen BK205.out 0
        have hfz9_1 := blk_frozen BK205.out 1
        have p206 : 0 ≤ (0 : Int) := (by omega)
        have q206 : 0 < (l0_1.length : Int) := of_decide_eq_true (by first | (with_reducible assumption) | assumption)
        obtain ⟨ad206, A206_1, c206_1, e206, hx206_0, hx206_1, hl206_1, hi206_1⟩ := at_T67 HR0_1.out 0 p206 q206
        cases e206
        have qi206 : (0 < l0_1.length) = True := eq_true (by omega)
        (try rw [show ((0 : Int)).toNat = 0 from rfl] at hx206_0)
        (try rw [show 0 * 2 = 0 from rfl] at hx206_0)
        (try rw [Addr.add_zero'] at hx206_0)
        (try rw [show ((0 : Int)).toNat = 0 from rfl] at hx206_1)
        (try rw [show 0 * 2 = 0 from rfl] at hx206_1)
        (try rw [Addr.add_zero'] at hx206_1)
        replace hx206_0 := (HB.out.cell (World.block_lt_of_cell? w _ hx206_0)).trans hx206_0
        replace hx206_1 := (HB.out.cell (World.block_lt_of_cell? w _ hx206_1)).trans hx206_1
        have HR206_1 := Aside0.mk hi206_1
        have HC206_1 := Aside0.mk hl206_1
        clear hi206_1 hl206_1
        replace p206 := eq_true p206
        replace q206 := eq_true q206
        go_wp2_with (first | ((with_reducible refine gate_callee (f := 47) rfl ?_); refine goesL_ (some 19) rfl rfl Tryz.func47 (by kernel_rfl) rfl #[.agg #[.int .u8 ((rd_T67 l0_1 0).f0), .slice A206_1 ((rd_T67 l0_1 0).f1).length c206_1], .int .i64 a1, .bool (!a2)] rfl (by (try simp only [List.map_toArray, List.map_cons, List.map_nil]); first | done | rfl | (simp only [List.length_drop, List.length_take]; rfl)) ?_; (with_reducible refine (ih k (by omega) ((rd_T67 l0_1 0).f0) _ _ ((rd_T67 l0_1 0).f1) a1 (!a2) t207 _ ?side1 ?side2 A8.out).mono ?_); (case side1 => repeat (first | exact (Kd.C_below HR206_1.out HB.out) | (with_reducible refine Kd.C_alloc ?_ _) | (with_reducible refine Kd.C_drewN ?_ _) | (with_reducible refine Kd.C_drew ?_))); (case side2 => exact HC206_1.out); rintro e w10 ⟨rfl, hb⟩; refine ⟨_, rfl, ?_⟩; have n0_ := Aside0.mk (blk_below (g := gb205) (o := .cells #[.int .u8 a0_0, .slice (some ad206) l0_1.length c0_1] 67 (0, 0)) (by (with_reducible repeat (first | refine blk_drewN ?_ _ | refine blk_drew ?_ | refine blk_alloc ?_ _)); exact BK205.out) hb); have n1_ := Aside0.mk (below_step (by repeat (first | (with_reducible first | exact HB.out | apply below_alloc | apply pw_below_drewN | apply below_drew1 | refine below_set ?_ GE205.out) | exact HB.out)) hb); clear BK205; clear HB; have BK205 := n0_; have HB := n1_; clear n0_ n1_; (try clear hb); (try clear hb2); (try clear hk); (try clear hi)))
        go_ret
        exact ⟨by first | rfl | (simp [errW_none, errW_some] <;> rfl) | (simp [*, errW_none, errW_some] <;> rfl) | (exfalso; simp_all; done), by repeat (first | (with_reducible first | exact HB.out | apply below_alloc | apply pw_below_drewN | apply below_drew1 | refine below_set ?_ GE205.out) | exact HB.out)⟩
      · rw [if_neg c7] at H
        exact absurd H (by simp)
    · rw [if_neg c6] at H
      have c6b0 : (a0_0 == 45) = false := beq_eq_false_iff_ne.mpr c6
      have c6b1 : (a0_0 != 45) = true := bne_iff_ne.mpr c6
      (first | rw [c6b0] | (simp only [i64_w, i32_w]; rw [c6b0]) | skip)
      by_cases c11 : a0_0 = 64
      · rw [if_pos c11] at H
        have c11b0 : (a0_0 == 64) = true := beq_iff_eq.mpr c11
        have c11b1 : (a0_0 != 64) = false := bne_eq_false_iff_eq.mpr c11
        clear c11
        by_cases c12 : 0 < (l0_1.length : Int)
        · rw [if_pos c12] at H
          have c12b0 : decide (0 < (l0_1.length : Int)) = true := decide_eq_true c12
          have c12b1 : decide (0 < l0_1.length) = true := decide_eq_true (by omega)
          clear c12
          replace H := Option.bind_eq_some_iff.mp H
          obtain ⟨t209, A130, H⟩ := H
          replace H : (some t209) = some r := H
          have A13 := Aside0.mk A130
          clear A130
          obtain rfl := Option.some.inj H
          have hcz14_0 : w5.cell? ⟨gb205, 0, none⟩ = some (.int .u8 a0_0) := (blk_cell BK205.out 0).trans rfl
          have hcz14_1 : w5.cell? ⟨gb205, 1, none⟩ = some (.slice A0_1 l0_1.length c0_1) := (blk_cell BK205.out 1).trans rfl
          have hfz14_0 := blk_frozen BK205.out 0
          have hfz14_1 := blk_frozen BK205.out 1
          have p208 : 0 ≤ (0 : Int) := (by omega)
          have q208 : 0 < (l0_1.length : Int) := of_decide_eq_true (by first | (with_reducible assumption) | assumption)
          obtain ⟨ad208, A208_1, c208_1, e208, hx208_0, hx208_1, hl208_1, hi208_1⟩ := at_T67 HR0_1.out 0 p208 q208
          cases e208
          have qi208 : (0 < l0_1.length) = True := eq_true (by omega)
          (try rw [show ((0 : Int)).toNat = 0 from rfl] at hx208_0)
          (try rw [show 0 * 2 = 0 from rfl] at hx208_0)
          (try rw [Addr.add_zero'] at hx208_0)
          (try rw [show ((0 : Int)).toNat = 0 from rfl] at hx208_1)
          (try rw [show 0 * 2 = 0 from rfl] at hx208_1)
          (try rw [Addr.add_zero'] at hx208_1)
          replace hx208_0 := (HB.out.cell (World.block_lt_of_cell? w _ hx208_0)).trans hx208_0
          replace hx208_1 := (HB.out.cell (World.block_lt_of_cell? w _ hx208_1)).trans hx208_1
          have HR208_1 := Aside0.mk hi208_1
          have HC208_1 := Aside0.mk hl208_1
          clear hi208_1 hl208_1
          replace p208 := eq_true p208
          replace q208 := eq_true q208
          go_wp2_with (first | ((with_reducible refine gate_callee (f := 47) rfl ?_); refine goesL_ (some 32) rfl rfl Tryz.func47 (by kernel_rfl) rfl #[.agg #[.int .u8 ((rd_T67 l0_1 0).f0), .slice A208_1 ((rd_T67 l0_1 0).f1).length c208_1], .int .i64 (Int.tmod (wrap64 (a1 + 1)) 4), .bool a2] rfl (by (try simp only [List.map_toArray, List.map_cons, List.map_nil]); first | done | rfl | (simp only [List.length_drop, List.length_take]; rfl)) ?_; (with_reducible refine (ih k (by omega) ((rd_T67 l0_1 0).f0) _ _ ((rd_T67 l0_1 0).f1) (Int.tmod (wrap64 (a1 + 1)) 4) a2 t209 _ ?side1 ?side2 A13.out).mono ?_); (case side1 => repeat (first | exact (Kd.C_below HR208_1.out HB.out) | (with_reducible refine Kd.C_alloc ?_ _) | (with_reducible refine Kd.C_drewN ?_ _) | (with_reducible refine Kd.C_drew ?_))); (case side2 => exact HC208_1.out); rintro e w15 ⟨rfl, hb⟩; refine ⟨_, rfl, ?_⟩; have n0_ := Aside0.mk (blk_below (g := gb205) (o := .cells #[.int .u8 a0_0, .slice (some ad208) l0_1.length c0_1] 67 (0, 0)) (by (with_reducible repeat (first | refine blk_drewN ?_ _ | refine blk_drew ?_ | refine blk_alloc ?_ _)); exact BK205.out) hb); have n1_ := Aside0.mk (below_step (by repeat (first | (with_reducible first | exact HB.out | apply below_alloc | apply pw_below_drewN | apply below_drew1 | refine below_set ?_ GE205.out) | exact HB.out)) hb); clear BK205; clear HB; have BK205 := n0_; have HB := n1_; clear n0_ n1_; (try clear hb); (try clear hb2); (try clear hk); (try clear hi)))
          go_ret
          exact ⟨by first | rfl | (simp [errW_none, errW_some] <;> rfl) | (simp [*, errW_none, errW_some] <;> rfl) | (exfalso; simp_all; done), by repeat (first | (with_reducible first | exact HB.out | apply below_alloc | apply pw_below_drewN | apply below_drew1 | refine below_set ?_ GE205.out) | exact HB.out)⟩
        · rw [if_neg c12] at H
          exact absurd H (by simp)
      · rw [if_neg c11] at H
        have c11b0 : (a0_0 == 64) = false := beq_eq_false_iff_ne.mpr c11
        have c11b1 : (a0_0 != 64) = true := bne_iff_ne.mpr c11
        have HC16 := Aside0.mk H
        clear H
        have hcz17_0 : w5.cell? ⟨gb205, 0, none⟩ = some (.int .u8 a0_0) := (blk_cell BK205.out 0).trans rfl
        have hcz17_1 : w5.cell? ⟨gb205, 1, none⟩ = some (.slice A0_1 l0_1.length c0_1) := (blk_cell BK205.out 1).trans rfl
        have hfz17_0 := blk_frozen BK205.out 0
        have hfz17_1 := blk_frozen BK205.out 1
        go_upto_region 5 with (fail)
        go_cut [33] (fun v33 wc => ∃ (kq : Nat) (x33_15 : Bool), v33 = .bool x33_15 ∧ Aside0 (spec_l10Tidy.j0 kq a1 a2 x33_15 a0_0 l0_1 = some r) ∧ Aside0 (kq ≤ k) ∧ Aside0 (wc.heap[gb205]? = some (.cells #[.int .u8 a0_0, (.slice A0_1 l0_1.length c0_1)] 67 (0, 0))) ∧ Aside0 (Below w.heap.size w wc))
        case first =>
          have H := HC16.out
          clear HC16
          by_cases c18 : a0_0 = 43
          · rw [if_pos c18] at H
            have c18b0 : (a0_0 == 43) = true := beq_iff_eq.mpr c18
            have c18b1 : (a0_0 != 43) = false := bne_eq_false_iff_eq.mpr c18
            clear c18
            (first | rw [c18b0] | (simp only [i64_w, i32_w]; rw [c18b0]) | skip)
            have H' := Aside0.mk H
            clear H
            have hcz19_0 : w5.cell? ⟨gb205, 0, none⟩ = some (.int .u8 a0_0) := (blk_cell BK205.out 0).trans rfl
            have hcz19_1 : w5.cell? ⟨gb205, 1, none⟩ = some (.slice A0_1 l0_1.length c0_1) := (blk_cell BK205.out 1).trans rfl
            have hfz19_0 := blk_frozen BK205.out 0
            have hfz19_1 := blk_frozen BK205.out 1
            go_wp2
            go_meet
            case rel => exact ⟨_, (a2), (by first | rfl | (simp; done) | (simp [*]; done)), H', ⟨by first | omega | exact Nat.le_refl _⟩, ⟨by (with_reducible repeat (first | refine blk_drewN ?_ _ | refine blk_drew ?_ | refine blk_alloc ?_ _)); exact BK205.out⟩, ⟨by repeat (first | (with_reducible first | exact HB.out | apply below_alloc | apply pw_below_drewN | apply below_drew1 | refine below_set ?_ GE205.out) | exact HB.out)⟩⟩
          · rw [if_neg c18] at H
            have c18b0 : (a0_0 == 43) = false := beq_eq_false_iff_ne.mpr c18
            have c18b1 : (a0_0 != 43) = true := bne_iff_ne.mpr c18
            (first | rw [c18b0] | (simp only [i64_w, i32_w]; rw [c18b0]) | skip)
            have H' := Aside0.mk H
            clear H
            have hcz20_0 : w5.cell? ⟨gb205, 0, none⟩ = some (.int .u8 a0_0) := (blk_cell BK205.out 0).trans rfl
            have hcz20_1 : w5.cell? ⟨gb205, 1, none⟩ = some (.slice A0_1 l0_1.length c0_1) := (blk_cell BK205.out 1).trans rfl
            have hfz20_0 := blk_frozen BK205.out 0
            have hfz20_1 := blk_frozen BK205.out 1
            go_wp2
            go_meet
            case rel => exact ⟨_, (false), (by first | rfl | (simp; done) | (simp [*]; done)), H', ⟨by first | omega | exact Nat.le_refl _⟩, ⟨by (with_reducible repeat (first | refine blk_drewN ?_ _ | refine blk_drew ?_ | refine blk_alloc ?_ _)); exact BK205.out⟩, ⟨by repeat (first | (with_reducible first | exact HB.out | apply below_alloc | apply pw_below_drewN | apply below_drew1 | refine below_set ?_ GE205.out) | exact HB.out)⟩⟩
        case rest =>
          clear HC16
          try clear c1
          try clear c2
          try clear p2
          try clear q2
          try clear hx2
          try clear qi2
          try clear c4
          try clear c6
          try clear c6b0
          try clear c6b1
          try clear p6
          try clear c7
          try clear c7b0
          try clear c7b1
          try clear c11
          try clear c11b0
          try clear c11b1
          try clear c12
          try clear c12b0
          try clear c12b1
          try clear c18
          try clear c18b0
          try clear c18b1
          try clear c20
          try clear p20
          try clear q20
          try clear hx20
          try clear qi20
          try clear hcz14_0
          try clear hcz14_1
          try clear hcz17_0
          try clear hcz17_1
          try clear hcz19_0
          try clear hcz19_1
          try clear hcz20_0
          try clear hcz20_1
          try clear hcz9_0
          try clear hcz9_1
          try clear hfz14_0
          try clear hfz14_1
          try clear hfz17_0
          try clear hfz17_1
          try clear hfz19_0
          try clear hfz19_1
          try clear hfz20_0
          try clear hfz20_1
          try clear hfz9_0
          try clear hfz9_1
          try clear hx206_0
          try clear hx206_1
          try clear hx208_0
          try clear hx208_1
          try clear p206
          try clear p208
          try clear q206
          try clear q208
          obtain ⟨kq, x33_15, rfl, HA, HJ15, BK205, HB⟩ := hcut
          cases kq with
          | zero => exact absurd HA.out (by simp [spec_l10Tidy.j0])
          | succ kj15 =>
            have H := HA.out
            clear HA
            simp only [spec_l10Tidy.j0] at H
            by_cases c21 : x33_15 = true
            · subst c21
              have H1 : (if 1 < (l0_1.length : Int) then ((spec_l10Tidy.f kj15 ((rd_T67 l0_1 1).f0) ((rd_T67 l0_1 1).f1) a1 a2).bind fun t211 => (if 1 + t211.size ≤ 9223372036854775807 then (if ((⟨#[40]⟩ : ByteArray) ++ t211).size + 1 ≤ 9223372036854775807 then (if 0 < (l0_1.length : Int) then ((spec_l10Tidy.f kj15 ((rd_T67 l0_1 0).f0) ((rd_T67 l0_1 0).f1) a1 a2).bind fun t213 => (if (((⟨#[40]⟩ : ByteArray) ++ t211) ++ (⟨#[43]⟩ : ByteArray)).size + t213.size ≤ 9223372036854775807 then (if ((((⟨#[40]⟩ : ByteArray) ++ t211) ++ (⟨#[43]⟩ : ByteArray)) ++ t213).size + 1 ≤ 9223372036854775807 then (some (((((⟨#[40]⟩ : ByteArray) ++ t211) ++ (⟨#[43]⟩ : ByteArray)) ++ t213) ++ (⟨#[41]⟩ : ByteArray))) else (none)) else (none))) else (none)) else (none)) else (none))) else (none)) = some r := by rw [if_pos rfl] at H; exact H
              clear H
              have H := H1
              clear H1
              by_cases c22 : 1 < (l0_1.length : Int)
              · rw [if_pos c22] at H
                have c22b0 : decide (1 < (l0_1.length : Int)) = true := decide_eq_true c22
                have c22b1 : decide (1 < l0_1.length) = true := decide_eq_true (by omega)
                clear c22
                replace H := Option.bind_eq_some_iff.mp H
                obtain ⟨t211, A230, H⟩ := H
                replace H : (if 1 + t211.size ≤ 9223372036854775807 then (if ((⟨#[40]⟩ : ByteArray) ++ t211).size + 1 ≤ 9223372036854775807 then (if 0 < (l0_1.length : Int) then ((spec_l10Tidy.f kj15 ((rd_T67 l0_1 0).f0) ((rd_T67 l0_1 0).f1) a1 a2).bind fun t213 => (if (((⟨#[40]⟩ : ByteArray) ++ t211) ++ (⟨#[43]⟩ : ByteArray)).size + t213.size ≤ 9223372036854775807 then (if ((((⟨#[40]⟩ : ByteArray) ++ t211) ++ (⟨#[43]⟩ : ByteArray)) ++ t213).size + 1 ≤ 9223372036854775807 then (some (((((⟨#[40]⟩ : ByteArray) ++ t211) ++ (⟨#[43]⟩ : ByteArray)) ++ t213) ++ (⟨#[41]⟩ : ByteArray))) else (none)) else (none))) else (none)) else (none)) else (none)) = some r := H
                have A23 := Aside0.mk A230
                clear A230
                by_cases c24 : 1 + t211.size ≤ 9223372036854775807
                · rw [if_pos c24] at H
                  have c24b0 := eq_true c24
                  have c24b1 : decide (1 + t211.size ≤ 9223372036854775807) = true := decide_eq_true c24
                  try have c24b2 : (9223372036854775807 < 1 + t211.size) = False := eq_false (Nat.not_lt.2 c24)
                  try (have c24b9 := c24; simp only [ByteArray.size_append] at c24b9; have c24b8 := eq_false (Nat.not_lt.2 c24b9))
                  by_cases c25 : ((⟨#[40]⟩ : ByteArray) ++ t211).size + 1 ≤ 9223372036854775807
                  · rw [if_pos c25] at H
                    have c25b0 := eq_true c25
                    have c25b1 : decide (((⟨#[40]⟩ : ByteArray) ++ t211).size + 1 ≤ 9223372036854775807) = true := decide_eq_true c25
                    try have c25b2 : (9223372036854775807 < ((⟨#[40]⟩ : ByteArray) ++ t211).size + 1) = False := eq_false (Nat.not_lt.2 c25)
                    try (have c25b9 := c25; simp only [ByteArray.size_append] at c25b9; (try rw [show (⟨#[40]⟩ : ByteArray).size = 1 from rfl] at c25b9); have c25b8 := eq_false (Nat.not_lt.2 c25b9))
                    by_cases c26 : 0 < (l0_1.length : Int)
                    · rw [if_pos c26] at H
                      have c26b0 : decide (0 < (l0_1.length : Int)) = true := decide_eq_true c26
                      have c26b1 : decide (0 < l0_1.length) = true := decide_eq_true (by omega)
                      clear c26
                      replace H := Option.bind_eq_some_iff.mp H
                      obtain ⟨t213, A270, H⟩ := H
                      replace H : (if (((⟨#[40]⟩ : ByteArray) ++ t211) ++ (⟨#[43]⟩ : ByteArray)).size + t213.size ≤ 9223372036854775807 then (if ((((⟨#[40]⟩ : ByteArray) ++ t211) ++ (⟨#[43]⟩ : ByteArray)) ++ t213).size + 1 ≤ 9223372036854775807 then (some (((((⟨#[40]⟩ : ByteArray) ++ t211) ++ (⟨#[43]⟩ : ByteArray)) ++ t213) ++ (⟨#[41]⟩ : ByteArray))) else (none)) else (none)) = some r := H
                      have A27 := Aside0.mk A270
                      clear A270
                      by_cases c28 : (((⟨#[40]⟩ : ByteArray) ++ t211) ++ (⟨#[43]⟩ : ByteArray)).size + t213.size ≤ 9223372036854775807
                      · rw [if_pos c28] at H
                        have c28b0 := eq_true c28
                        have c28b1 : decide ((((⟨#[40]⟩ : ByteArray) ++ t211) ++ (⟨#[43]⟩ : ByteArray)).size + t213.size ≤ 9223372036854775807) = true := decide_eq_true c28
                        try have c28b2 : (9223372036854775807 < (((⟨#[40]⟩ : ByteArray) ++ t211) ++ (⟨#[43]⟩ : ByteArray)).size + t213.size) = False := eq_false (Nat.not_lt.2 c28)
                        try (have c28b9 := c28; simp only [ByteArray.size_append] at c28b9; (try rw [show (⟨#[40]⟩ : ByteArray).size = 1 from rfl] at c28b9); (try rw [show (⟨#[43]⟩ : ByteArray).size = 1 from rfl] at c28b9); have c28b8 := eq_false (Nat.not_lt.2 c28b9))
                        by_cases c29 : ((((⟨#[40]⟩ : ByteArray) ++ t211) ++ (⟨#[43]⟩ : ByteArray)) ++ t213).size + 1 ≤ 9223372036854775807
                        · rw [if_pos c29] at H
                          have c29b0 := eq_true c29
                          have c29b1 : decide (((((⟨#[40]⟩ : ByteArray) ++ t211) ++ (⟨#[43]⟩ : ByteArray)) ++ t213).size + 1 ≤ 9223372036854775807) = true := decide_eq_true c29
                          try have c29b2 : (9223372036854775807 < ((((⟨#[40]⟩ : ByteArray) ++ t211) ++ (⟨#[43]⟩ : ByteArray)) ++ t213).size + 1) = False := eq_false (Nat.not_lt.2 c29)
                          try (have c29b9 := c29; simp only [ByteArray.size_append] at c29b9; (try rw [show (⟨#[40]⟩ : ByteArray).size = 1 from rfl] at c29b9); (try rw [show (⟨#[43]⟩ : ByteArray).size = 1 from rfl] at c29b9); have c29b8 := eq_false (Nat.not_lt.2 c29b9))
                          obtain rfl := Option.some.inj H
                          try go_wp2
                          have n0_ := Aside0.mk (blk_drew BK205.out)
                          have n1_ := Aside0.mk (below_drew1 HB.out)
                          clear BK205
                          clear HB
                          have BK205 := n0_
                          have HB := n1_
                          clear n0_ n1_
                          have p210 : 0 ≤ (1 : Int) := (by omega)
                          have q210 : 1 < (l0_1.length : Int) := of_decide_eq_true (by first | (with_reducible assumption) | assumption)
                          obtain ⟨ad210, A210_1, c210_1, e210, hx210_0, hx210_1, hl210_1, hi210_1⟩ := at_T67 HR0_1.out 1 p210 q210
                          have hw210_1 := hx210_1
                          (try rw [show ((1 : Int)).toNat = 1 from rfl] at hw210_1)
                          (try rw [show 1 * 2 = 2 from rfl] at hw210_1)
                          (try simp only [Nat.reduceMul, Nat.reduceEqDiff, Go.Addr.add, ↓reduceIte] at hw210_1)
                          have hw210_0 := hx210_0
                          (try rw [show ((1 : Int)).toNat = 1 from rfl] at hw210_0)
                          (try rw [show 1 * 2 = 2 from rfl] at hw210_0)
                          (try simp only [Nat.reduceMul, Nat.reduceEqDiff, Go.Addr.add, ↓reduceIte] at hw210_0)
                          cases e210
                          (try simp only [show (1 : Int).toNat = 1 from rfl, Nat.reduceMul, Nat.reduceEqDiff, Go.Addr.add, ↓reduceIte] at hx210_0)
                          (try simp only [show (1 : Int).toNat = 1 from rfl, Nat.reduceMul, Nat.reduceEqDiff, Go.Addr.add, ↓reduceIte] at hx210_1)
                          have qi210 : (1 < l0_1.length) = True := eq_true (by omega)
                          (try rw [show ((1 : Int)).toNat = 1 from rfl] at hx210_0)
                          (try rw [show 1 * 2 = 2 from rfl] at hx210_0)
                          (try rw [show ((1 : Int)).toNat = 1 from rfl] at hx210_1)
                          (try rw [show 1 * 2 = 2 from rfl] at hx210_1)
                          replace hx210_0 := (HB.out.cell (World.block_lt_of_cell? w _ hx210_0)).trans hx210_0
                          replace hx210_1 := (HB.out.cell (World.block_lt_of_cell? w _ hx210_1)).trans hx210_1
                          have HR210_1 := Aside0.mk hi210_1
                          have HC210_1 := Aside0.mk hl210_1
                          clear hi210_1 hl210_1
                          replace p210 := eq_true p210
                          replace q210 := eq_true q210
                          have p212 : 0 ≤ (0 : Int) := (by omega)
                          have q212 : 0 < (l0_1.length : Int) := of_decide_eq_true (by first | (with_reducible assumption) | assumption)
                          obtain ⟨ad212, A212_1, c212_1, e212, hx212_0, hx212_1, hl212_1, hi212_1⟩ := at_T67 HR0_1.out 0 p212 q212
                          have hw212_1 := hx212_1
                          (try rw [show ((0 : Int)).toNat = 0 from rfl] at hw212_1)
                          (try rw [show 0 * 2 = 0 from rfl] at hw212_1)
                          (try rw [Addr.add_zero'] at hw212_1)
                          have hw212_0 := hx212_0
                          (try rw [show ((0 : Int)).toNat = 0 from rfl] at hw212_0)
                          (try rw [show 0 * 2 = 0 from rfl] at hw212_0)
                          (try rw [Addr.add_zero'] at hw212_0)
                          obtain rfl : ad210 = ad212 := (by injection e212)
                          have qi212 : (0 < l0_1.length) = True := eq_true (by omega)
                          (try rw [show ((0 : Int)).toNat = 0 from rfl] at hx212_0)
                          (try rw [show 0 * 2 = 0 from rfl] at hx212_0)
                          (try rw [Addr.add_zero'] at hx212_0)
                          (try rw [show ((0 : Int)).toNat = 0 from rfl] at hx212_1)
                          (try rw [show 0 * 2 = 0 from rfl] at hx212_1)
                          (try rw [Addr.add_zero'] at hx212_1)
                          replace hx212_0 := (HB.out.cell (World.block_lt_of_cell? w _ hx212_0)).trans hx212_0
                          replace hx212_1 := (HB.out.cell (World.block_lt_of_cell? w _ hx212_1)).trans hx212_1
                          have HR212_1 := Aside0.mk hi212_1
                          have HC212_1 := Aside0.mk hl212_1
                          clear hi212_1 hl212_1
                          replace p212 := eq_true p212
                          replace q212 := eq_true q212
                          refine start_ (n := 19) (S := fun w' => w'.cell? ⟨gb205, 0, none⟩ = some (.int .u8 a0_0) ∧ w'.cell? ⟨gb205, 1, none⟩ = some (.slice (some ad210) l0_1.length c0_1) ∧ w'.cell? ⟨ad210.block, ad210.off + 2, none⟩ = some (.int .u8 ((rd_T67 l0_1 1).f0)) ∧ w'.cell? ⟨ad210.block, ad210.off + 2 + 1, none⟩ = some (.slice A210_1 ((rd_T67 l0_1 1).f1).length c210_1) ∧ w'.cell? ad210 = some (.int .u8 ((rd_T67 l0_1 0).f0)) ∧ w'.cell? ⟨ad210.block, ad210.off + 1, none⟩ = some (.slice A212_1 ((rd_T67 l0_1 0).f1).length c212_1)) (ds := []) #[false, false, false, false, false, false, false, false, false, false, false, false, false, false, false, false, false, false, false] (by kernel_rfl) rfl rfl ⟨(blk_cell BK205.out 0).trans rfl, (blk_cell BK205.out 1).trans rfl, ((HB.out.cell (World.block_lt_of_cell? w _ hw210_0)).trans hw210_0), ((HB.out.cell (World.block_lt_of_cell? w _ hw210_1)).trans hw210_1), ((HB.out.cell (World.block_lt_of_cell? w _ hw212_0)).trans hw212_0), ((HB.out.cell (World.block_lt_of_cell? w _ hw212_1)).trans hw212_1)⟩ (fun hHeld => ?_); refine with_tabW spec_l10Tidy.tab6 spec_l10Tidy.bits6 (fun HT_ HW_ => ?_)
                          generalize wc.drew = w30 at BK205 HB HR210_1 HR212_1 hx210_0 hx210_1 hx212_0 hx212_1 hHeld ⊢
                          refine pure_ (i := 0) (N := some 40) (v := ?_) (a' := ?_) #[true, false, false, false, false, false, false, false, false, false, false, false, false, false, false, false, false, false, false] rfl rfl (any_of HT_.out (by kernel_rfl)) (fun _ _ _ h => h) (Or.inl ⟨by rfl, ?_⟩) ?_ ?_
                          rotate_left
                          · intro w'
                            go_simp
                            with_reducible rfl
                          rotate_left
                          · simp only [Act.put, List.setIfInBounds_toArray, List.set_cons_zero, List.set_cons_succ, i64_w, i32_w]
                            rfl
                          refine pure_ (i := 4) (N := some 44) (v := ?_) (a' := ?_) #[true, false, false, false, true, false, false, false, false, false, false, false, false, false, false, false, false, false, false] rfl rfl (any_of HT_.out (by kernel_rfl)) (fun _ _ _ h => h) (Or.inl ⟨by rfl, ?_⟩) ?_ ?_
                          rotate_left
                          · intro w'
                            go_simp
                            with_reducible rfl
                          rotate_left
                          · simp only [Act.put, List.setIfInBounds_toArray, List.set_cons_zero, List.set_cons_succ, i64_w, i32_w]
                            rfl
                          refine pure_ (i := 5) (N := some 45) (v := ?_) (a' := ?_) #[true, false, false, false, true, true, false, false, false, false, false, false, false, false, false, false, false, false, false] rfl rfl (any_of HT_.out (by kernel_rfl)) (fun _ _ _ h => h) (Or.inl ⟨by rfl, ?_⟩) ?_ ?_
                          rotate_left
                          · intro w'
                            go_simp
                            with_reducible rfl
                          rotate_left
                          · simp only [Act.put, List.setIfInBounds_toArray, List.set_cons_zero, List.set_cons_succ, i64_w, i32_w]
                            rfl
                          refine pure_ (i := 9) (N := some 49) (v := ?_) (a' := ?_) #[true, false, false, false, true, true, false, false, false, true, false, false, false, false, false, false, false, false, false] rfl rfl (any_of HT_.out (by kernel_rfl)) (fun _ _ _ h => h) (Or.inl ⟨by rfl, ?_⟩) ?_ ?_
                          rotate_left
                          · intro w'
                            go_simp
                            with_reducible rfl
                          rotate_left
                          · simp only [Act.put, List.setIfInBounds_toArray, List.set_cons_zero, List.set_cons_succ, i64_w, i32_w]
                            rfl
                          refine pure_ (i := 13) (N := some 53) (v := ?_) (a' := ?_) #[true, false, false, false, true, true, false, false, false, true, false, false, false, true, false, false, false, false, false] rfl rfl (any_of HT_.out (by kernel_rfl)) (fun _ _ _ h => h) (Or.inl ⟨by rfl, ?_⟩) ?_ ?_
                          rotate_left
                          · intro w'
                            go_simp
                            with_reducible rfl
                          rotate_left
                          · simp only [Act.put, List.setIfInBounds_toArray, List.set_cons_zero, List.set_cons_succ, i64_w, i32_w]
                            rfl
                          refine pure_ (i := 14) (N := some 54) (v := ?_) (a' := ?_) #[true, false, false, false, true, true, false, false, false, true, false, false, false, true, true, false, false, false, false] rfl rfl (any_of HT_.out (by kernel_rfl)) (fun _ _ _ h => h) (Or.inl ⟨by rfl, ?_⟩) ?_ ?_
                          rotate_left
                          · intro w'
                            go_simp
                            with_reducible rfl
                          rotate_left
                          · simp only [Act.put, List.setIfInBounds_toArray, List.set_cons_zero, List.set_cons_succ, i64_w, i32_w]
                            rfl
                          refine take_ (i := 1) (N := some 41) (v := ?_) (a' := ?_) #[true, true, false, false, true, true, false, false, false, true, false, false, false, true, true, false, false, false, false] rfl rfl (take_ofW HT_.out HW_.out (by kernel_rfl)) (fun _ _ _ h => h) (Or.inl ⟨by rfl, ?_⟩) hHeld ?_ ?_
                          rotate_left
                          · rintro w' ⟨s0, s1, s2, s3, s4, s5⟩
                            go_simp
                            with_reducible rfl
                          rotate_left
                          · simp only [Act.put, List.setIfInBounds_toArray, List.set_cons_zero, List.set_cons_succ, i64_w, i32_w]
                            rfl
                          refine pure_ (i := 2) (N := some 42) (v := ?_) (a' := ?_) #[true, true, true, false, true, true, false, false, false, true, false, false, false, true, true, false, false, false, false] rfl rfl (any_of HT_.out (by kernel_rfl)) (fun _ _ _ h => h) (Or.inl ⟨by rfl, ?_⟩) ?_ ?_
                          rotate_left
                          · intro w'
                            go_simp
                            with_reducible rfl
                          rotate_left
                          · simp only [Act.put, List.setIfInBounds_toArray, List.set_cons_zero, List.set_cons_succ, i64_w, i32_w]
                            rfl
                          refine take_ (i := 3) (N := some 43) (v := ?_) (a' := ?_) #[true, true, true, true, true, true, false, false, false, true, false, false, false, true, true, false, false, false, false] rfl rfl (take_ofW HT_.out HW_.out (by kernel_rfl)) (fun _ _ _ h => h) (Or.inl ⟨by rfl, ?_⟩) hHeld ?_ ?_
                          rotate_left
                          · rintro w' ⟨s0, s1, s2, s3, s4, s5⟩
                            go_simp
                            with_reducible rfl
                          rotate_left
                          · simp only [Act.put, List.setIfInBounds_toArray, List.set_cons_zero, List.set_cons_succ, i64_w, i32_w]
                            rfl
                          refine take_ (i := 10) (N := some 50) (v := ?_) (a' := ?_) #[true, true, true, true, true, true, false, false, false, true, true, false, false, true, true, false, false, false, false] rfl rfl (take_ofW HT_.out HW_.out (by kernel_rfl)) (fun _ _ _ h => h) (Or.inl ⟨by rfl, ?_⟩) hHeld ?_ ?_
                          rotate_left
                          · rintro w' ⟨s0, s1, s2, s3, s4, s5⟩
                            go_simp
                            with_reducible rfl
                          rotate_left
                          · simp only [Act.put, List.setIfInBounds_toArray, List.set_cons_zero, List.set_cons_succ, i64_w, i32_w]
                            rfl
                          refine pure_ (i := 11) (N := some 51) (v := ?_) (a' := ?_) #[true, true, true, true, true, true, false, false, false, true, true, true, false, true, true, false, false, false, false] rfl rfl (any_of HT_.out (by kernel_rfl)) (fun _ _ _ h => h) (Or.inl ⟨by rfl, ?_⟩) ?_ ?_
                          rotate_left
                          · intro w'
                            go_simp
                            with_reducible rfl
                          rotate_left
                          · simp only [Act.put, List.setIfInBounds_toArray, List.set_cons_zero, List.set_cons_succ, i64_w, i32_w]
                            rfl
                          refine take_ (i := 12) (N := some 52) (v := ?_) (a' := ?_) #[true, true, true, true, true, true, false, false, false, true, true, true, true, true, true, false, false, false, false] rfl rfl (take_ofW HT_.out HW_.out (by kernel_rfl)) (fun _ _ _ h => h) (Or.inl ⟨by rfl, ?_⟩) hHeld ?_ ?_
                          rotate_left
                          · rintro w' ⟨s0, s1, s2, s3, s4, s5⟩
                            go_simp
                            with_reducible rfl
                          rotate_left
                          · simp only [Act.put, List.setIfInBounds_toArray, List.set_cons_zero, List.set_cons_succ, i64_w, i32_w]
                            rfl
                          refine one_ (i := 6) (N := some 46) #[true, true, true, true, true, true, true, false, false, true, true, true, true, true, true, false, false, false, false] rfl rfl (one_of HT_.out (by kernel_rfl)) (by decide) (fun K hK => ?_)
                          refine goes_ Tryz.func47 (by kernel_rfl) rfl #[.agg #[.int .u8 ((rd_T67 l0_1 1).f0), .slice A210_1 ((rd_T67 l0_1 1).f1).length c210_1], .int .i64 a1, .bool a2] (by rfl) rfl rfl (by (try simp only [List.map_toArray, List.map_cons, List.map_nil]); first | done | rfl | (simp only [List.length_drop, List.length_take]; rfl)) ?_
                          with_reducible refine (ih kj15 (by have := HJ15.out; omega) ((rd_T67 l0_1 1).f0) _ _ ((rd_T67 l0_1 1).f1) a1 a2 t211 _ ?side1 ?side2 A23.out).mono ?_
                          (case side1 => repeat (first | exact (Kd.C_below HR210_1.out HB.out) | (with_reducible refine Kd.C_alloc ?_ _) | (with_reducible refine Kd.C_drewN ?_ _) | (with_reducible refine Kd.C_drew ?_)))
                          (case side2 => exact HC210_1.out)
                          rintro e w31 ⟨rfl, hb⟩
                          refine ⟨_, rfl, ?_⟩
                          have n0_ := Aside0.mk (blk_below (g := gb205) (o := .cells #[.int .u8 a0_0, .slice (some ad210) l0_1.length c0_1] 67 (0, 0)) (by (with_reducible repeat (first | refine blk_drewN ?_ _ | refine blk_drew ?_ | refine blk_alloc ?_ _)); exact BK205.out) hb)
                          have n1_ := Aside0.mk (below_step (by repeat (first | (with_reducible first | exact HB.out | apply below_alloc | apply pw_below_drewN | apply below_drew1 | refine below_set ?_ GE205.out) | exact HB.out)) hb)
                          clear BK205
                          clear HB
                          have BK205 := n0_
                          have HB := n1_
                          clear n0_ n1_
                          (try clear hb)
                          (try clear hb2)
                          (try clear hk)
                          (try clear hi)
                          refine hK.out _ _ ⟨(blk_cell BK205.out 0).trans rfl, (blk_cell BK205.out 1).trans rfl, ((HB.out.cell (World.block_lt_of_cell? w _ hw210_0)).trans hw210_0), ((HB.out.cell (World.block_lt_of_cell? w _ hw210_1)).trans hw210_1), ((HB.out.cell (World.block_lt_of_cell? w _ hw212_0)).trans hw212_0), ((HB.out.cell (World.block_lt_of_cell? w _ hw212_1)).trans hw212_1)⟩ (fun hHeld => ?_)
                          clear hK K
                          refine norm_ (a' := ?_) ?_ ?_
                          rotate_left
                          · show Act.put _ (some 46) _ = _
                            simp only [Act.put, List.setIfInBounds_toArray, List.set_cons_zero, List.set_cons_succ, i64_w, i32_w]
                            rfl
                          refine pure_ (i := 7) (N := some 47) (v := ?_) (a' := ?_) #[true, true, true, true, true, true, true, true, false, true, true, true, true, true, true, false, false, false, false] rfl rfl (any_of HT_.out (by kernel_rfl)) (fun _ _ _ h => h) (Or.inl ⟨by rfl, ?_⟩) ?_ ?_
                          rotate_left
                          · intro w'
                            go_simp
                            with_reducible rfl
                          rotate_left
                          · simp only [Act.put, List.setIfInBounds_toArray, List.set_cons_zero, List.set_cons_succ, i64_w, i32_w]
                            rfl
                          refine pure_ (i := 8) (N := some 48) (v := ?_) (a' := ?_) #[true, true, true, true, true, true, true, true, true, true, true, true, true, true, true, false, false, false, false] rfl rfl (any_of HT_.out (by kernel_rfl)) (fun _ _ _ h => h) (Or.inl ⟨by rfl, ?_⟩) ?_ ?_
                          rotate_left
                          · intro w'
                            go_simp
                            with_reducible rfl
                          rotate_left
                          · simp only [Act.put, List.setIfInBounds_toArray, List.set_cons_zero, List.set_cons_succ, i64_w, i32_w]
                            rfl
                          refine one_ (i := 15) (N := some 55) #[true, true, true, true, true, true, true, true, true, true, true, true, true, true, true, true, false, false, false] rfl rfl (one_of HT_.out (by kernel_rfl)) (by decide) (fun K hK => ?_)
                          refine goes_ Tryz.func47 (by kernel_rfl) rfl #[.agg #[.int .u8 ((rd_T67 l0_1 0).f0), .slice A212_1 ((rd_T67 l0_1 0).f1).length c212_1], .int .i64 a1, .bool a2] (by rfl) rfl rfl (by (try simp only [List.map_toArray, List.map_cons, List.map_nil]); first | done | rfl | (simp only [List.length_drop, List.length_take]; rfl)) ?_
                          with_reducible refine (ih kj15 (by have := HJ15.out; omega) ((rd_T67 l0_1 0).f0) _ _ ((rd_T67 l0_1 0).f1) a1 a2 t213 _ ?side1 ?side2 A27.out).mono ?_
                          (case side1 => repeat (first | exact (Kd.C_below HR212_1.out HB.out) | (with_reducible refine Kd.C_alloc ?_ _) | (with_reducible refine Kd.C_drewN ?_ _) | (with_reducible refine Kd.C_drew ?_)))
                          (case side2 => exact HC212_1.out)
                          rintro e w32 ⟨rfl, hb⟩
                          refine ⟨_, rfl, ?_⟩
                          have n0_ := Aside0.mk (blk_below (g := gb205) (o := .cells #[.int .u8 a0_0, .slice (some ad210) l0_1.length c0_1] 67 (0, 0)) (by (with_reducible repeat (first | refine blk_drewN ?_ _ | refine blk_drew ?_ | refine blk_alloc ?_ _)); exact BK205.out) hb)
                          have n1_ := Aside0.mk (below_step (by repeat (first | (with_reducible first | exact HB.out | apply below_alloc | apply pw_below_drewN | apply below_drew1 | refine below_set ?_ GE205.out) | exact HB.out)) hb)
                          clear BK205
                          clear HB
                          have BK205 := n0_
                          have HB := n1_
                          clear n0_ n1_
                          (try clear hb)
                          (try clear hb2)
                          (try clear hk)
                          (try clear hi)
                          refine hK.out _ _ ⟨(blk_cell BK205.out 0).trans rfl, (blk_cell BK205.out 1).trans rfl, ((HB.out.cell (World.block_lt_of_cell? w _ hw210_0)).trans hw210_0), ((HB.out.cell (World.block_lt_of_cell? w _ hw210_1)).trans hw210_1), ((HB.out.cell (World.block_lt_of_cell? w _ hw212_0)).trans hw212_0), ((HB.out.cell (World.block_lt_of_cell? w _ hw212_1)).trans hw212_1)⟩ (fun hHeld => ?_)
                          clear hK K
                          refine norm_ (a' := ?_) ?_ ?_
                          rotate_left
                          · show Act.put _ (some 55) _ = _
                            simp only [Act.put, List.setIfInBounds_toArray, List.set_cons_zero, List.set_cons_succ, i64_w, i32_w]
                            rfl
                          refine pure_ (i := 16) (N := some 56) (v := ?_) (a' := ?_) #[true, true, true, true, true, true, true, true, true, true, true, true, true, true, true, true, true, false, false] rfl rfl (any_of HT_.out (by kernel_rfl)) (fun _ _ _ h => h) (Or.inl ⟨by rfl, ?_⟩) ?_ ?_
                          rotate_left
                          · intro w'
                            go_simp
                            with_reducible rfl
                          rotate_left
                          · simp only [Act.put, List.setIfInBounds_toArray, List.set_cons_zero, List.set_cons_succ, i64_w, i32_w]
                            rfl
                          refine pure_ (i := 17) (N := some 57) (v := ?_) (a' := ?_) #[true, true, true, true, true, true, true, true, true, true, true, true, true, true, true, true, true, true, false] rfl rfl (any_of HT_.out (by kernel_rfl)) (fun _ _ _ h => h) (Or.inl ⟨by rfl, ?_⟩) ?_ ?_
                          rotate_left
                          · intro w'
                            go_simp
                            with_reducible rfl
                          rotate_left
                          · simp only [Act.put, List.setIfInBounds_toArray, List.set_cons_zero, List.set_cons_succ, i64_w, i32_w]
                            rfl
                          refine pure_ (i := 18) (N := some 6) (v := ?_) (a' := ?_) #[true, true, true, true, true, true, true, true, true, true, true, true, true, true, true, true, true, true, true] rfl rfl (any_of HT_.out (by kernel_rfl)) (fun _ _ _ h => h) (Or.inl ⟨by rfl, ?_⟩) ?_ ?_
                          rotate_left
                          · intro w'
                            go_simp
                            with_reducible rfl
                          rotate_left
                          · simp only [Act.put, List.setIfInBounds_toArray, List.set_cons_zero, List.set_cons_succ, i64_w, i32_w]
                            rfl
                          refine done_ (done_of HT_.out (by kernel_rfl)) ?_
                          try go_wp2
                          go_ret
                          exact ⟨by first | rfl | (simp [errW_none, errW_some] <;> rfl) | (simp [*, errW_none, errW_some] <;> rfl) | (exfalso; simp_all; done), by repeat (first | (with_reducible first | exact HB.out | apply below_alloc | apply pw_below_drewN | apply below_drew1 | refine below_set ?_ GE205.out) | exact HB.out)⟩
                        · rw [if_neg c29] at H
                          exact absurd H (by simp)
                      · rw [if_neg c28] at H
                        exact absurd H (by simp)
                    · rw [if_neg c26] at H
                      exact absurd H (by simp)
                  · rw [if_neg c25] at H
                    exact absurd H (by simp)
                · rw [if_neg c24] at H
                  exact absurd H (by simp)
              · rw [if_neg c22] at H
                exact absurd H (by simp)
            · replace c21 := Bool.eq_false_iff.mpr c21
              subst c21
              have H1 : (if a0_0 = 43 then (if 0 < (l0_1.length : Int) then ((spec_l10Tidy.f kj15 ((rd_T67 l0_1 0).f0) ((rd_T67 l0_1 0).f1) a1 a2).bind fun t215 => (if 1 + t215.size ≤ 9223372036854775807 then (if ((⟨#[40]⟩ : ByteArray) ++ t215).size + 1 ≤ 9223372036854775807 then (if 1 < (l0_1.length : Int) then ((spec_l10Tidy.f kj15 ((rd_T67 l0_1 1).f0) ((rd_T67 l0_1 1).f1) a1 a2).bind fun t217 => (if (((⟨#[40]⟩ : ByteArray) ++ t215) ++ (⟨#[43]⟩ : ByteArray)).size + t217.size ≤ 9223372036854775807 then (if ((((⟨#[40]⟩ : ByteArray) ++ t215) ++ (⟨#[43]⟩ : ByteArray)) ++ t217).size + 1 ≤ 9223372036854775807 then (some (((((⟨#[40]⟩ : ByteArray) ++ t215) ++ (⟨#[43]⟩ : ByteArray)) ++ t217) ++ (⟨#[41]⟩ : ByteArray))) else (none)) else (none))) else (none)) else (none)) else (none))) else (none)) else (if a0_0 ≥ 50 then (if a0_0 ≤ 57 then ((some (([a0_0] : List Int) : List Int)).bind fun y218 => (if 0 < (l0_1.length : Int) then ((spec_l10Tidy.f kj15 ((rd_T67 l0_1 0).f0) ((rd_T67 l0_1 0).f1) a1 a2).bind fun t222 => (if (strOfNums y218).size + t222.size ≤ 9223372036854775807 then (some ((strOfNums y218) ++ t222)) else (none))) else (none))) else (spec_l10Tidy.j1 kj15 a1 a2 a0_0 l0_1)) else (spec_l10Tidy.j1 kj15 a1 a2 a0_0 l0_1))) = some r := by rw [if_neg (show ¬ (false = true) by decide)] at H; exact H
              clear H
              have H := H1
              clear H1
              by_cases c33 : a0_0 = 43
              · rw [if_pos c33] at H
                have c33b0 : (a0_0 == 43) = true := beq_iff_eq.mpr c33
                have c33b1 : (a0_0 != 43) = false := bne_eq_false_iff_eq.mpr c33
                clear c33
                by_cases c34 : 0 < (l0_1.length : Int)
                · rw [if_pos c34] at H
                  have c34b0 : decide (0 < (l0_1.length : Int)) = true := decide_eq_true c34
                  have c34b1 : decide (0 < l0_1.length) = true := decide_eq_true (by omega)
                  clear c34
                  replace H := Option.bind_eq_some_iff.mp H
                  obtain ⟨t215, A350, H⟩ := H
                  replace H : (if 1 + t215.size ≤ 9223372036854775807 then (if ((⟨#[40]⟩ : ByteArray) ++ t215).size + 1 ≤ 9223372036854775807 then (if 1 < (l0_1.length : Int) then ((spec_l10Tidy.f kj15 ((rd_T67 l0_1 1).f0) ((rd_T67 l0_1 1).f1) a1 a2).bind fun t217 => (if (((⟨#[40]⟩ : ByteArray) ++ t215) ++ (⟨#[43]⟩ : ByteArray)).size + t217.size ≤ 9223372036854775807 then (if ((((⟨#[40]⟩ : ByteArray) ++ t215) ++ (⟨#[43]⟩ : ByteArray)) ++ t217).size + 1 ≤ 9223372036854775807 then (some (((((⟨#[40]⟩ : ByteArray) ++ t215) ++ (⟨#[43]⟩ : ByteArray)) ++ t217) ++ (⟨#[41]⟩ : ByteArray))) else (none)) else (none))) else (none)) else (none)) else (none)) = some r := H
                  have A35 := Aside0.mk A350
                  clear A350
                  by_cases c36 : 1 + t215.size ≤ 9223372036854775807
                  · rw [if_pos c36] at H
                    have c36b0 := eq_true c36
                    have c36b1 : decide (1 + t215.size ≤ 9223372036854775807) = true := decide_eq_true c36
                    try have c36b2 : (9223372036854775807 < 1 + t215.size) = False := eq_false (Nat.not_lt.2 c36)
                    try (have c36b9 := c36; simp only [ByteArray.size_append] at c36b9; have c36b8 := eq_false (Nat.not_lt.2 c36b9))
                    by_cases c37 : ((⟨#[40]⟩ : ByteArray) ++ t215).size + 1 ≤ 9223372036854775807
                    · rw [if_pos c37] at H
                      have c37b0 := eq_true c37
                      have c37b1 : decide (((⟨#[40]⟩ : ByteArray) ++ t215).size + 1 ≤ 9223372036854775807) = true := decide_eq_true c37
                      try have c37b2 : (9223372036854775807 < ((⟨#[40]⟩ : ByteArray) ++ t215).size + 1) = False := eq_false (Nat.not_lt.2 c37)
                      try (have c37b9 := c37; simp only [ByteArray.size_append] at c37b9; (try rw [show (⟨#[40]⟩ : ByteArray).size = 1 from rfl] at c37b9); have c37b8 := eq_false (Nat.not_lt.2 c37b9))
                      by_cases c38 : 1 < (l0_1.length : Int)
                      · rw [if_pos c38] at H
                        have c38b0 : decide (1 < (l0_1.length : Int)) = true := decide_eq_true c38
                        have c38b1 : decide (1 < l0_1.length) = true := decide_eq_true (by omega)
                        clear c38
                        replace H := Option.bind_eq_some_iff.mp H
                        obtain ⟨t217, A390, H⟩ := H
                        replace H : (if (((⟨#[40]⟩ : ByteArray) ++ t215) ++ (⟨#[43]⟩ : ByteArray)).size + t217.size ≤ 9223372036854775807 then (if ((((⟨#[40]⟩ : ByteArray) ++ t215) ++ (⟨#[43]⟩ : ByteArray)) ++ t217).size + 1 ≤ 9223372036854775807 then (some (((((⟨#[40]⟩ : ByteArray) ++ t215) ++ (⟨#[43]⟩ : ByteArray)) ++ t217) ++ (⟨#[41]⟩ : ByteArray))) else (none)) else (none)) = some r := H
                        have A39 := Aside0.mk A390
                        clear A390
                        by_cases c40 : (((⟨#[40]⟩ : ByteArray) ++ t215) ++ (⟨#[43]⟩ : ByteArray)).size + t217.size ≤ 9223372036854775807
                        · rw [if_pos c40] at H
                          have c40b0 := eq_true c40
                          have c40b1 : decide ((((⟨#[40]⟩ : ByteArray) ++ t215) ++ (⟨#[43]⟩ : ByteArray)).size + t217.size ≤ 9223372036854775807) = true := decide_eq_true c40
                          try have c40b2 : (9223372036854775807 < (((⟨#[40]⟩ : ByteArray) ++ t215) ++ (⟨#[43]⟩ : ByteArray)).size + t217.size) = False := eq_false (Nat.not_lt.2 c40)
                          try (have c40b9 := c40; simp only [ByteArray.size_append] at c40b9; (try rw [show (⟨#[40]⟩ : ByteArray).size = 1 from rfl] at c40b9); (try rw [show (⟨#[43]⟩ : ByteArray).size = 1 from rfl] at c40b9); have c40b8 := eq_false (Nat.not_lt.2 c40b9))
                          by_cases c41 : ((((⟨#[40]⟩ : ByteArray) ++ t215) ++ (⟨#[43]⟩ : ByteArray)) ++ t217).size + 1 ≤ 9223372036854775807
                          · rw [if_pos c41] at H
                            have c41b0 := eq_true c41
                            have c41b1 : decide (((((⟨#[40]⟩ : ByteArray) ++ t215) ++ (⟨#[43]⟩ : ByteArray)) ++ t217).size + 1 ≤ 9223372036854775807) = true := decide_eq_true c41
                            try have c41b2 : (9223372036854775807 < ((((⟨#[40]⟩ : ByteArray) ++ t215) ++ (⟨#[43]⟩ : ByteArray)) ++ t217).size + 1) = False := eq_false (Nat.not_lt.2 c41)
                            try (have c41b9 := c41; simp only [ByteArray.size_append] at c41b9; (try rw [show (⟨#[40]⟩ : ByteArray).size = 1 from rfl] at c41b9); (try rw [show (⟨#[43]⟩ : ByteArray).size = 1 from rfl] at c41b9); have c41b8 := eq_false (Nat.not_lt.2 c41b9))
                            obtain rfl := Option.some.inj H
                            have hcz42_0 : wc.cell? ⟨gb205, 0, none⟩ = some (.int .u8 a0_0) := (blk_cell BK205.out 0).trans rfl
                            have hcz42_1 : wc.cell? ⟨gb205, 1, none⟩ = some (.slice A0_1 l0_1.length c0_1) := (blk_cell BK205.out 1).trans rfl
                            have hfz42_0 := blk_frozen BK205.out 0
                            have hfz42_1 := blk_frozen BK205.out 1
                            try go_wp2
                            have n0_ := Aside0.mk (blk_drew BK205.out)
                            have n1_ := Aside0.mk (below_drew1 HB.out)
                            clear BK205
                            clear HB
                            have BK205 := n0_
                            have HB := n1_
                            clear n0_ n1_
                            have p214 : 0 ≤ (0 : Int) := (by omega)
                            have q214 : 0 < (l0_1.length : Int) := of_decide_eq_true (by first | (with_reducible assumption) | assumption)
                            obtain ⟨ad214, A214_1, c214_1, e214, hx214_0, hx214_1, hl214_1, hi214_1⟩ := at_T67 HR0_1.out 0 p214 q214
                            have hw214_1 := hx214_1
                            (try rw [show ((0 : Int)).toNat = 0 from rfl] at hw214_1)
                            (try rw [show 0 * 2 = 0 from rfl] at hw214_1)
                            (try rw [Addr.add_zero'] at hw214_1)
                            have hw214_0 := hx214_0
                            (try rw [show ((0 : Int)).toNat = 0 from rfl] at hw214_0)
                            (try rw [show 0 * 2 = 0 from rfl] at hw214_0)
                            (try rw [Addr.add_zero'] at hw214_0)
                            cases e214
                            have qi214 : (0 < l0_1.length) = True := eq_true (by omega)
                            (try rw [show ((0 : Int)).toNat = 0 from rfl] at hx214_0)
                            (try rw [show 0 * 2 = 0 from rfl] at hx214_0)
                            (try rw [Addr.add_zero'] at hx214_0)
                            (try rw [show ((0 : Int)).toNat = 0 from rfl] at hx214_1)
                            (try rw [show 0 * 2 = 0 from rfl] at hx214_1)
                            (try rw [Addr.add_zero'] at hx214_1)
                            replace hx214_0 := (HB.out.cell (World.block_lt_of_cell? w _ hx214_0)).trans hx214_0
                            replace hx214_1 := (HB.out.cell (World.block_lt_of_cell? w _ hx214_1)).trans hx214_1
                            have HR214_1 := Aside0.mk hi214_1
                            have HC214_1 := Aside0.mk hl214_1
                            clear hi214_1 hl214_1
                            replace p214 := eq_true p214
                            replace q214 := eq_true q214
                            have p216 : 0 ≤ (1 : Int) := (by omega)
                            have q216 : 1 < (l0_1.length : Int) := of_decide_eq_true (by first | (with_reducible assumption) | assumption)
                            obtain ⟨ad216, A216_1, c216_1, e216, hx216_0, hx216_1, hl216_1, hi216_1⟩ := at_T67 HR0_1.out 1 p216 q216
                            have hw216_1 := hx216_1
                            (try rw [show ((1 : Int)).toNat = 1 from rfl] at hw216_1)
                            (try rw [show 1 * 2 = 2 from rfl] at hw216_1)
                            (try simp only [Nat.reduceMul, Nat.reduceEqDiff, Go.Addr.add, ↓reduceIte] at hw216_1)
                            have hw216_0 := hx216_0
                            (try rw [show ((1 : Int)).toNat = 1 from rfl] at hw216_0)
                            (try rw [show 1 * 2 = 2 from rfl] at hw216_0)
                            (try simp only [Nat.reduceMul, Nat.reduceEqDiff, Go.Addr.add, ↓reduceIte] at hw216_0)
                            obtain rfl : ad214 = ad216 := (by injection e216)
                            (try simp only [show (1 : Int).toNat = 1 from rfl, Nat.reduceMul, Nat.reduceEqDiff, Go.Addr.add, ↓reduceIte] at hx216_0)
                            (try simp only [show (1 : Int).toNat = 1 from rfl, Nat.reduceMul, Nat.reduceEqDiff, Go.Addr.add, ↓reduceIte] at hx216_1)
                            have qi216 : (1 < l0_1.length) = True := eq_true (by omega)
                            (try rw [show ((1 : Int)).toNat = 1 from rfl] at hx216_0)
                            (try rw [show 1 * 2 = 2 from rfl] at hx216_0)
                            (try rw [show ((1 : Int)).toNat = 1 from rfl] at hx216_1)
                            (try rw [show 1 * 2 = 2 from rfl] at hx216_1)
                            replace hx216_0 := (HB.out.cell (World.block_lt_of_cell? w _ hx216_0)).trans hx216_0
                            replace hx216_1 := (HB.out.cell (World.block_lt_of_cell? w _ hx216_1)).trans hx216_1
                            have HR216_1 := Aside0.mk hi216_1
                            have HC216_1 := Aside0.mk hl216_1
                            clear hi216_1 hl216_1
                            replace p216 := eq_true p216
                            replace q216 := eq_true q216
                            refine start_ (n := 19) (S := fun w' => w'.cell? ⟨gb205, 0, none⟩ = some (.int .u8 a0_0) ∧ w'.cell? ⟨gb205, 1, none⟩ = some (.slice (some ad214) l0_1.length c0_1) ∧ w'.cell? ad214 = some (.int .u8 ((rd_T67 l0_1 0).f0)) ∧ w'.cell? ⟨ad214.block, ad214.off + 1, none⟩ = some (.slice A214_1 ((rd_T67 l0_1 0).f1).length c214_1) ∧ w'.cell? ⟨ad214.block, ad214.off + 2, none⟩ = some (.int .u8 ((rd_T67 l0_1 1).f0)) ∧ w'.cell? ⟨ad214.block, ad214.off + 2 + 1, none⟩ = some (.slice A216_1 ((rd_T67 l0_1 1).f1).length c216_1)) (ds := []) #[false, false, false, false, false, false, false, false, false, false, false, false, false, false, false, false, false, false, false] (by kernel_rfl) rfl rfl ⟨(blk_cell BK205.out 0).trans rfl, (blk_cell BK205.out 1).trans rfl, ((HB.out.cell (World.block_lt_of_cell? w _ hw214_0)).trans hw214_0), ((HB.out.cell (World.block_lt_of_cell? w _ hw214_1)).trans hw214_1), ((HB.out.cell (World.block_lt_of_cell? w _ hw216_0)).trans hw216_0), ((HB.out.cell (World.block_lt_of_cell? w _ hw216_1)).trans hw216_1)⟩ (fun hHeld => ?_); refine with_tabW spec_l10Tidy.tab8 spec_l10Tidy.bits8 (fun HT_ HW_ => ?_)
                            generalize wc.drew = w43 at BK205 HB HR214_1 HR216_1 hx214_0 hx214_1 hx216_0 hx216_1 hHeld ⊢
                            refine pure_ (i := 0) (N := some 62) (v := ?_) (a' := ?_) #[true, false, false, false, false, false, false, false, false, false, false, false, false, false, false, false, false, false, false] rfl rfl (any_of HT_.out (by kernel_rfl)) (fun _ _ _ h => h) (Or.inl ⟨by rfl, ?_⟩) ?_ ?_
                            rotate_left
                            · intro w'
                              go_simp
                              with_reducible rfl
                            rotate_left
                            · simp only [Act.put, List.setIfInBounds_toArray, List.set_cons_zero, List.set_cons_succ, i64_w, i32_w]
                              rfl
                            refine pure_ (i := 4) (N := some 66) (v := ?_) (a' := ?_) #[true, false, false, false, true, false, false, false, false, false, false, false, false, false, false, false, false, false, false] rfl rfl (any_of HT_.out (by kernel_rfl)) (fun _ _ _ h => h) (Or.inl ⟨by rfl, ?_⟩) ?_ ?_
                            rotate_left
                            · intro w'
                              go_simp
                              with_reducible rfl
                            rotate_left
                            · simp only [Act.put, List.setIfInBounds_toArray, List.set_cons_zero, List.set_cons_succ, i64_w, i32_w]
                              rfl
                            refine pure_ (i := 5) (N := some 67) (v := ?_) (a' := ?_) #[true, false, false, false, true, true, false, false, false, false, false, false, false, false, false, false, false, false, false] rfl rfl (any_of HT_.out (by kernel_rfl)) (fun _ _ _ h => h) (Or.inl ⟨by rfl, ?_⟩) ?_ ?_
                            rotate_left
                            · intro w'
                              go_simp
                              with_reducible rfl
                            rotate_left
                            · simp only [Act.put, List.setIfInBounds_toArray, List.set_cons_zero, List.set_cons_succ, i64_w, i32_w]
                              rfl
                            refine pure_ (i := 9) (N := some 71) (v := ?_) (a' := ?_) #[true, false, false, false, true, true, false, false, false, true, false, false, false, false, false, false, false, false, false] rfl rfl (any_of HT_.out (by kernel_rfl)) (fun _ _ _ h => h) (Or.inl ⟨by rfl, ?_⟩) ?_ ?_
                            rotate_left
                            · intro w'
                              go_simp
                              with_reducible rfl
                            rotate_left
                            · simp only [Act.put, List.setIfInBounds_toArray, List.set_cons_zero, List.set_cons_succ, i64_w, i32_w]
                              rfl
                            refine pure_ (i := 13) (N := some 75) (v := ?_) (a' := ?_) #[true, false, false, false, true, true, false, false, false, true, false, false, false, true, false, false, false, false, false] rfl rfl (any_of HT_.out (by kernel_rfl)) (fun _ _ _ h => h) (Or.inl ⟨by rfl, ?_⟩) ?_ ?_
                            rotate_left
                            · intro w'
                              go_simp
                              with_reducible rfl
                            rotate_left
                            · simp only [Act.put, List.setIfInBounds_toArray, List.set_cons_zero, List.set_cons_succ, i64_w, i32_w]
                              rfl
                            refine pure_ (i := 14) (N := some 76) (v := ?_) (a' := ?_) #[true, false, false, false, true, true, false, false, false, true, false, false, false, true, true, false, false, false, false] rfl rfl (any_of HT_.out (by kernel_rfl)) (fun _ _ _ h => h) (Or.inl ⟨by rfl, ?_⟩) ?_ ?_
                            rotate_left
                            · intro w'
                              go_simp
                              with_reducible rfl
                            rotate_left
                            · simp only [Act.put, List.setIfInBounds_toArray, List.set_cons_zero, List.set_cons_succ, i64_w, i32_w]
                              rfl
                            refine take_ (i := 1) (N := some 63) (v := ?_) (a' := ?_) #[true, true, false, false, true, true, false, false, false, true, false, false, false, true, true, false, false, false, false] rfl rfl (take_ofW HT_.out HW_.out (by kernel_rfl)) (fun _ _ _ h => h) (Or.inl ⟨by rfl, ?_⟩) hHeld ?_ ?_
                            rotate_left
                            · rintro w' ⟨s0, s1, s2, s3, s4, s5⟩
                              go_simp
                              with_reducible rfl
                            rotate_left
                            · simp only [Act.put, List.setIfInBounds_toArray, List.set_cons_zero, List.set_cons_succ, i64_w, i32_w]
                              rfl
                            refine pure_ (i := 2) (N := some 64) (v := ?_) (a' := ?_) #[true, true, true, false, true, true, false, false, false, true, false, false, false, true, true, false, false, false, false] rfl rfl (any_of HT_.out (by kernel_rfl)) (fun _ _ _ h => h) (Or.inl ⟨by rfl, ?_⟩) ?_ ?_
                            rotate_left
                            · intro w'
                              go_simp
                              with_reducible rfl
                            rotate_left
                            · simp only [Act.put, List.setIfInBounds_toArray, List.set_cons_zero, List.set_cons_succ, i64_w, i32_w]
                              rfl
                            refine take_ (i := 3) (N := some 65) (v := ?_) (a' := ?_) #[true, true, true, true, true, true, false, false, false, true, false, false, false, true, true, false, false, false, false] rfl rfl (take_ofW HT_.out HW_.out (by kernel_rfl)) (fun _ _ _ h => h) (Or.inl ⟨by rfl, ?_⟩) hHeld ?_ ?_
                            rotate_left
                            · rintro w' ⟨s0, s1, s2, s3, s4, s5⟩
                              go_simp
                              with_reducible rfl
                            rotate_left
                            · simp only [Act.put, List.setIfInBounds_toArray, List.set_cons_zero, List.set_cons_succ, i64_w, i32_w]
                              rfl
                            refine take_ (i := 10) (N := some 72) (v := ?_) (a' := ?_) #[true, true, true, true, true, true, false, false, false, true, true, false, false, true, true, false, false, false, false] rfl rfl (take_ofW HT_.out HW_.out (by kernel_rfl)) (fun _ _ _ h => h) (Or.inl ⟨by rfl, ?_⟩) hHeld ?_ ?_
                            rotate_left
                            · rintro w' ⟨s0, s1, s2, s3, s4, s5⟩
                              go_simp
                              with_reducible rfl
                            rotate_left
                            · simp only [Act.put, List.setIfInBounds_toArray, List.set_cons_zero, List.set_cons_succ, i64_w, i32_w]
                              rfl
                            refine pure_ (i := 11) (N := some 73) (v := ?_) (a' := ?_) #[true, true, true, true, true, true, false, false, false, true, true, true, false, true, true, false, false, false, false] rfl rfl (any_of HT_.out (by kernel_rfl)) (fun _ _ _ h => h) (Or.inl ⟨by rfl, ?_⟩) ?_ ?_
                            rotate_left
                            · intro w'
                              go_simp
                              with_reducible rfl
                            rotate_left
                            · simp only [Act.put, List.setIfInBounds_toArray, List.set_cons_zero, List.set_cons_succ, i64_w, i32_w]
                              rfl
                            refine take_ (i := 12) (N := some 74) (v := ?_) (a' := ?_) #[true, true, true, true, true, true, false, false, false, true, true, true, true, true, true, false, false, false, false] rfl rfl (take_ofW HT_.out HW_.out (by kernel_rfl)) (fun _ _ _ h => h) (Or.inl ⟨by rfl, ?_⟩) hHeld ?_ ?_
                            rotate_left
                            · rintro w' ⟨s0, s1, s2, s3, s4, s5⟩
                              go_simp
                              with_reducible rfl
                            rotate_left
                            · simp only [Act.put, List.setIfInBounds_toArray, List.set_cons_zero, List.set_cons_succ, i64_w, i32_w]
                              rfl
                            refine one_ (i := 6) (N := some 68) #[true, true, true, true, true, true, true, false, false, true, true, true, true, true, true, false, false, false, false] rfl rfl (one_of HT_.out (by kernel_rfl)) (by decide) (fun K hK => ?_)
                            refine goes_ Tryz.func47 (by kernel_rfl) rfl #[.agg #[.int .u8 ((rd_T67 l0_1 0).f0), .slice A214_1 ((rd_T67 l0_1 0).f1).length c214_1], .int .i64 a1, .bool a2] (by rfl) rfl rfl (by (try simp only [List.map_toArray, List.map_cons, List.map_nil]); first | done | rfl | (simp only [List.length_drop, List.length_take]; rfl)) ?_
                            with_reducible refine (ih kj15 (by have := HJ15.out; omega) ((rd_T67 l0_1 0).f0) _ _ ((rd_T67 l0_1 0).f1) a1 a2 t215 _ ?side1 ?side2 A35.out).mono ?_
                            (case side1 => repeat (first | exact (Kd.C_below HR214_1.out HB.out) | (with_reducible refine Kd.C_alloc ?_ _) | (with_reducible refine Kd.C_drewN ?_ _) | (with_reducible refine Kd.C_drew ?_)))
                            (case side2 => exact HC214_1.out)
                            rintro e w44 ⟨rfl, hb⟩
                            refine ⟨_, rfl, ?_⟩
                            have n0_ := Aside0.mk (blk_below (g := gb205) (o := .cells #[.int .u8 a0_0, .slice (some ad214) l0_1.length c0_1] 67 (0, 0)) (by (with_reducible repeat (first | refine blk_drewN ?_ _ | refine blk_drew ?_ | refine blk_alloc ?_ _)); exact BK205.out) hb)
                            have n1_ := Aside0.mk (below_step (by repeat (first | (with_reducible first | exact HB.out | apply below_alloc | apply pw_below_drewN | apply below_drew1 | refine below_set ?_ GE205.out) | exact HB.out)) hb)
                            clear BK205
                            clear HB
                            have BK205 := n0_
                            have HB := n1_
                            clear n0_ n1_
                            (try clear hb)
                            (try clear hb2)
                            (try clear hk)
                            (try clear hi)
                            refine hK.out _ _ ⟨(blk_cell BK205.out 0).trans rfl, (blk_cell BK205.out 1).trans rfl, ((HB.out.cell (World.block_lt_of_cell? w _ hw214_0)).trans hw214_0), ((HB.out.cell (World.block_lt_of_cell? w _ hw214_1)).trans hw214_1), ((HB.out.cell (World.block_lt_of_cell? w _ hw216_0)).trans hw216_0), ((HB.out.cell (World.block_lt_of_cell? w _ hw216_1)).trans hw216_1)⟩ (fun hHeld => ?_)
                            clear hK K
                            refine norm_ (a' := ?_) ?_ ?_
                            rotate_left
                            · show Act.put _ (some 68) _ = _
                              simp only [Act.put, List.setIfInBounds_toArray, List.set_cons_zero, List.set_cons_succ, i64_w, i32_w]
                              rfl
                            refine pure_ (i := 7) (N := some 69) (v := ?_) (a' := ?_) #[true, true, true, true, true, true, true, true, false, true, true, true, true, true, true, false, false, false, false] rfl rfl (any_of HT_.out (by kernel_rfl)) (fun _ _ _ h => h) (Or.inl ⟨by rfl, ?_⟩) ?_ ?_
                            rotate_left
                            · intro w'
                              go_simp
                              with_reducible rfl
                            rotate_left
                            · simp only [Act.put, List.setIfInBounds_toArray, List.set_cons_zero, List.set_cons_succ, i64_w, i32_w]
                              rfl
                            refine pure_ (i := 8) (N := some 70) (v := ?_) (a' := ?_) #[true, true, true, true, true, true, true, true, true, true, true, true, true, true, true, false, false, false, false] rfl rfl (any_of HT_.out (by kernel_rfl)) (fun _ _ _ h => h) (Or.inl ⟨by rfl, ?_⟩) ?_ ?_
                            rotate_left
                            · intro w'
                              go_simp
                              with_reducible rfl
                            rotate_left
                            · simp only [Act.put, List.setIfInBounds_toArray, List.set_cons_zero, List.set_cons_succ, i64_w, i32_w]
                              rfl
                            refine one_ (i := 15) (N := some 77) #[true, true, true, true, true, true, true, true, true, true, true, true, true, true, true, true, false, false, false] rfl rfl (one_of HT_.out (by kernel_rfl)) (by decide) (fun K hK => ?_)
                            refine goes_ Tryz.func47 (by kernel_rfl) rfl #[.agg #[.int .u8 ((rd_T67 l0_1 1).f0), .slice A216_1 ((rd_T67 l0_1 1).f1).length c216_1], .int .i64 a1, .bool a2] (by rfl) rfl rfl (by (try simp only [List.map_toArray, List.map_cons, List.map_nil]); first | done | rfl | (simp only [List.length_drop, List.length_take]; rfl)) ?_
                            with_reducible refine (ih kj15 (by have := HJ15.out; omega) ((rd_T67 l0_1 1).f0) _ _ ((rd_T67 l0_1 1).f1) a1 a2 t217 _ ?side1 ?side2 A39.out).mono ?_
                            (case side1 => repeat (first | exact (Kd.C_below HR216_1.out HB.out) | (with_reducible refine Kd.C_alloc ?_ _) | (with_reducible refine Kd.C_drewN ?_ _) | (with_reducible refine Kd.C_drew ?_)))
                            (case side2 => exact HC216_1.out)
                            rintro e w45 ⟨rfl, hb⟩
                            refine ⟨_, rfl, ?_⟩
                            have n0_ := Aside0.mk (blk_below (g := gb205) (o := .cells #[.int .u8 a0_0, .slice (some ad214) l0_1.length c0_1] 67 (0, 0)) (by (with_reducible repeat (first | refine blk_drewN ?_ _ | refine blk_drew ?_ | refine blk_alloc ?_ _)); exact BK205.out) hb)
                            have n1_ := Aside0.mk (below_step (by repeat (first | (with_reducible first | exact HB.out | apply below_alloc | apply pw_below_drewN | apply below_drew1 | refine below_set ?_ GE205.out) | exact HB.out)) hb)
                            clear BK205
                            clear HB
                            have BK205 := n0_
                            have HB := n1_
                            clear n0_ n1_
                            (try clear hb)
                            (try clear hb2)
                            (try clear hk)
                            (try clear hi)
                            refine hK.out _ _ ⟨(blk_cell BK205.out 0).trans rfl, (blk_cell BK205.out 1).trans rfl, ((HB.out.cell (World.block_lt_of_cell? w _ hw214_0)).trans hw214_0), ((HB.out.cell (World.block_lt_of_cell? w _ hw214_1)).trans hw214_1), ((HB.out.cell (World.block_lt_of_cell? w _ hw216_0)).trans hw216_0), ((HB.out.cell (World.block_lt_of_cell? w _ hw216_1)).trans hw216_1)⟩ (fun hHeld => ?_)
                            clear hK K
                            refine norm_ (a' := ?_) ?_ ?_
                            rotate_left
                            · show Act.put _ (some 77) _ = _
                              simp only [Act.put, List.setIfInBounds_toArray, List.set_cons_zero, List.set_cons_succ, i64_w, i32_w]
                              rfl
                            refine pure_ (i := 16) (N := some 78) (v := ?_) (a' := ?_) #[true, true, true, true, true, true, true, true, true, true, true, true, true, true, true, true, true, false, false] rfl rfl (any_of HT_.out (by kernel_rfl)) (fun _ _ _ h => h) (Or.inl ⟨by rfl, ?_⟩) ?_ ?_
                            rotate_left
                            · intro w'
                              go_simp
                              with_reducible rfl
                            rotate_left
                            · simp only [Act.put, List.setIfInBounds_toArray, List.set_cons_zero, List.set_cons_succ, i64_w, i32_w]
                              rfl
                            refine pure_ (i := 17) (N := some 79) (v := ?_) (a' := ?_) #[true, true, true, true, true, true, true, true, true, true, true, true, true, true, true, true, true, true, false] rfl rfl (any_of HT_.out (by kernel_rfl)) (fun _ _ _ h => h) (Or.inl ⟨by rfl, ?_⟩) ?_ ?_
                            rotate_left
                            · intro w'
                              go_simp
                              with_reducible rfl
                            rotate_left
                            · simp only [Act.put, List.setIfInBounds_toArray, List.set_cons_zero, List.set_cons_succ, i64_w, i32_w]
                              rfl
                            refine pure_ (i := 18) (N := some 6) (v := ?_) (a' := ?_) #[true, true, true, true, true, true, true, true, true, true, true, true, true, true, true, true, true, true, true] rfl rfl (any_of HT_.out (by kernel_rfl)) (fun _ _ _ h => h) (Or.inl ⟨by rfl, ?_⟩) ?_ ?_
                            rotate_left
                            · intro w'
                              go_simp
                              with_reducible rfl
                            rotate_left
                            · simp only [Act.put, List.setIfInBounds_toArray, List.set_cons_zero, List.set_cons_succ, i64_w, i32_w]
                              rfl
                            refine done_ (done_of HT_.out (by kernel_rfl)) ?_
                            try go_wp2
                            go_ret
                            exact ⟨by first | rfl | (simp [errW_none, errW_some] <;> rfl) | (simp [*, errW_none, errW_some] <;> rfl) | (exfalso; simp_all; done), by repeat (first | (with_reducible first | exact HB.out | apply below_alloc | apply pw_below_drewN | apply below_drew1 | refine below_set ?_ GE205.out) | exact HB.out)⟩
                          · rw [if_neg c41] at H
                            exact absurd H (by simp)
                        · rw [if_neg c40] at H
                          exact absurd H (by simp)
                      · rw [if_neg c38] at H
                        exact absurd H (by simp)
                    · rw [if_neg c37] at H
                      exact absurd H (by simp)
                  · rw [if_neg c36] at H
                    exact absurd H (by simp)
                · rw [if_neg c34] at H
                  exact absurd H (by simp)
              · rw [if_neg c33] at H
                have c33b0 : (a0_0 == 43) = false := beq_eq_false_iff_ne.mpr c33
                have c33b1 : (a0_0 != 43) = true := bne_iff_ne.mpr c33
                by_cases c46 : a0_0 ≥ 50
                · rw [if_pos c46] at H
                  have c46b0 : decide (50 ≤ a0_0) = true := decide_eq_true c46
                  clear c46
                  by_cases c47 : a0_0 ≤ 57
                  · rw [if_pos c47] at H
                    have c47b0 : decide (a0_0 ≤ 57) = true := decide_eq_true c47
                    clear c47
                    obtain ⟨y218, hy218⟩ : ∃ y_ : List Int, y_ = (([a0_0] : List Int)) := ⟨_, rfl⟩
                    replace H : (if 0 < (l0_1.length : Int) then ((spec_l10Tidy.f kj15 ((rd_T67 l0_1 0).f0) ((rd_T67 l0_1 0).f1) a1 a2).bind fun t222 => (if (strOfNums y218).size + t222.size ≤ 9223372036854775807 then (some ((strOfNums y218) ++ t222)) else (none))) else (none)) = some r := by first | (rw [hy218]; with_reducible exact H) | (have H2_ := (Option.bind_some _ _).symm.trans H; rw [hy218]; with_reducible exact H2_) | (have H2_ := (Option.bind_some _ _).symm.trans H; with_reducible exact H2_) | with_reducible exact H | (rw [hy218]; exact H) | exact H
                    have Ny218 := Aside0.mk hy218
                    clear hy218
                    by_cases c48 : 0 < (l0_1.length : Int)
                    · rw [if_pos c48] at H
                      have c48b0 : decide (0 < (l0_1.length : Int)) = true := decide_eq_true c48
                      have c48b1 : decide (0 < l0_1.length) = true := decide_eq_true (by omega)
                      clear c48
                      replace H := Option.bind_eq_some_iff.mp H
                      obtain ⟨t222, A490, H⟩ := H
                      replace H : (if (strOfNums y218).size + t222.size ≤ 9223372036854775807 then (some ((strOfNums y218) ++ t222)) else (none)) = some r := H
                      have A49 := Aside0.mk A490
                      clear A490
                      by_cases c50 : (strOfNums y218).size + t222.size ≤ 9223372036854775807
                      · rw [if_pos c50] at H
                        have c50b0 := eq_true c50
                        have c50b1 : decide ((strOfNums y218).size + t222.size ≤ 9223372036854775807) = true := decide_eq_true c50
                        try have c50b2 : (9223372036854775807 < (strOfNums y218).size + t222.size) = False := eq_false (Nat.not_lt.2 c50)
                        try (have c50b9 := c50; simp only [ByteArray.size_append] at c50b9; have c50b8 := eq_false (Nat.not_lt.2 c50b9))
                        obtain rfl := Option.some.inj H
                        have hcz51_0 : wc.cell? ⟨gb205, 0, none⟩ = some (.int .u8 a0_0) := (blk_cell BK205.out 0).trans rfl
                        have hcz51_1 : wc.cell? ⟨gb205, 1, none⟩ = some (.slice A0_1 l0_1.length c0_1) := (blk_cell BK205.out 1).trans rfl
                        have hfz51_0 := blk_frozen BK205.out 0
                        have hfz51_1 := blk_frozen BK205.out 1
                        try go_wp2
                        have n0_ := Aside0.mk (blk_drew BK205.out)
                        have n1_ := Aside0.mk (below_drew1 HB.out)
                        clear BK205
                        clear HB
                        have BK205 := n0_
                        have HB := n1_
                        clear n0_ n1_
                        have p221 : 0 ≤ (0 : Int) := (by omega)
                        have q221 : 0 < (l0_1.length : Int) := of_decide_eq_true (by first | (with_reducible assumption) | assumption)
                        obtain ⟨ad221, A221_1, c221_1, e221, hx221_0, hx221_1, hl221_1, hi221_1⟩ := at_T67 HR0_1.out 0 p221 q221
                        have hw221_1 := hx221_1
                        (try rw [show ((0 : Int)).toNat = 0 from rfl] at hw221_1)
                        (try rw [show 0 * 2 = 0 from rfl] at hw221_1)
                        (try rw [Addr.add_zero'] at hw221_1)
                        have hw221_0 := hx221_0
                        (try rw [show ((0 : Int)).toNat = 0 from rfl] at hw221_0)
                        (try rw [show 0 * 2 = 0 from rfl] at hw221_0)
                        (try rw [Addr.add_zero'] at hw221_0)
                        cases e221
                        have qi221 : (0 < l0_1.length) = True := eq_true (by omega)
                        (try rw [show ((0 : Int)).toNat = 0 from rfl] at hx221_0)
                        (try rw [show 0 * 2 = 0 from rfl] at hx221_0)
                        (try rw [Addr.add_zero'] at hx221_0)
                        (try rw [show ((0 : Int)).toNat = 0 from rfl] at hx221_1)
                        (try rw [show 0 * 2 = 0 from rfl] at hx221_1)
                        (try rw [Addr.add_zero'] at hx221_1)
                        replace hx221_0 := (HB.out.cell (World.block_lt_of_cell? w _ hx221_0)).trans hx221_0
                        replace hx221_1 := (HB.out.cell (World.block_lt_of_cell? w _ hx221_1)).trans hx221_1
                        have HR221_1 := Aside0.mk hi221_1
                        have HC221_1 := Aside0.mk hl221_1
                        clear hi221_1 hl221_1
                        replace p221 := eq_true p221
                        replace q221 := eq_true q221
                        refine start_ (n := 13) (S := fun w' => w'.cell? ⟨gb205, 0, none⟩ = some (.int .u8 a0_0) ∧ w'.cell? ⟨gb205, 1, none⟩ = some (.slice (some ad221) l0_1.length c0_1) ∧ w'.cell? ad221 = some (.int .u8 ((rd_T67 l0_1 0).f0)) ∧ w'.cell? ⟨ad221.block, ad221.off + 1, none⟩ = some (.slice A221_1 ((rd_T67 l0_1 0).f1).length c221_1)) (ds := []) #[false, false, false, false, false, false, false, false, false, false, false, false, false] (by kernel_rfl) rfl rfl ⟨(blk_cell BK205.out 0).trans rfl, (blk_cell BK205.out 1).trans rfl, ((HB.out.cell (World.block_lt_of_cell? w _ hw221_0)).trans hw221_0), ((HB.out.cell (World.block_lt_of_cell? w _ hw221_1)).trans hw221_1)⟩ (fun hHeld => ?_); refine with_tabW spec_l10Tidy.tab10 spec_l10Tidy.bits10 (fun HT_ HW_ => ?_)
                        generalize wc.drew = w52 at BK205 HB HR221_1 hx221_0 hx221_1 hHeld ⊢
                        refine pure_ (i := 0) (N := some 89) (v := ?_) (a' := ?_) #[true, false, false, false, false, false, false, false, false, false, false, false, false] rfl rfl (any_of HT_.out (by kernel_rfl)) (fun _ _ _ h => h) (Or.inl ⟨by rfl, ?_⟩) ?_ ?_
                        rotate_left
                        · intro w'
                          go_simp
                          with_reducible rfl
                        rotate_left
                        · simp only [Act.put, List.setIfInBounds_toArray, List.set_cons_zero, List.set_cons_succ, i64_w, i32_w]
                          rfl
                        refine pure_ (i := 4) (N := some 93) (v := ?_) (a' := ?_) #[true, false, false, false, true, false, false, false, false, false, false, false, false] rfl rfl (any_of HT_.out (by kernel_rfl)) (fun _ _ _ h => h) (Or.inl ⟨by rfl, ?_⟩) ?_ ?_
                        rotate_left
                        · intro w'
                          go_simp
                          with_reducible rfl
                        rotate_left
                        · simp only [Act.put, List.setIfInBounds_toArray, List.set_cons_zero, List.set_cons_succ, i64_w, i32_w]
                          rfl
                        refine pure_ (i := 8) (N := some 97) (v := ?_) (a' := ?_) #[true, false, false, false, true, false, false, false, true, false, false, false, false] rfl rfl (any_of HT_.out (by kernel_rfl)) (fun _ _ _ h => h) (Or.inl ⟨by rfl, ?_⟩) ?_ ?_
                        rotate_left
                        · intro w'
                          go_simp
                          with_reducible rfl
                        rotate_left
                        · simp only [Act.put, List.setIfInBounds_toArray, List.set_cons_zero, List.set_cons_succ, i64_w, i32_w]
                          rfl
                        refine pure_ (i := 9) (N := some 98) (v := ?_) (a' := ?_) #[true, false, false, false, true, false, false, false, true, true, false, false, false] rfl rfl (any_of HT_.out (by kernel_rfl)) (fun _ _ _ h => h) (Or.inl ⟨by rfl, ?_⟩) ?_ ?_
                        rotate_left
                        · intro w'
                          go_simp
                          with_reducible rfl
                        rotate_left
                        · simp only [Act.put, List.setIfInBounds_toArray, List.set_cons_zero, List.set_cons_succ, i64_w, i32_w]
                          rfl
                        refine take_ (i := 1) (N := some 90) (v := ?_) (a' := ?_) #[true, true, false, false, true, false, false, false, true, true, false, false, false] rfl rfl (take_ofW HT_.out HW_.out (by kernel_rfl)) (fun _ _ _ h => h) (Or.inl ⟨by rfl, ?_⟩) hHeld ?_ ?_
                        rotate_left
                        · rintro w' ⟨s0, s1, s2, s3⟩
                          go_simp
                          with_reducible rfl
                        rotate_left
                        · simp only [Act.put, List.setIfInBounds_toArray, List.set_cons_zero, List.set_cons_succ, i64_w, i32_w]
                          rfl
                        refine take_ (i := 5) (N := some 94) (v := ?_) (a' := ?_) #[true, true, false, false, true, true, false, false, true, true, false, false, false] rfl rfl (take_ofW HT_.out HW_.out (by kernel_rfl)) (fun _ _ _ h => h) (Or.inl ⟨by rfl, ?_⟩) hHeld ?_ ?_
                        rotate_left
                        · rintro w' ⟨s0, s1, s2, s3⟩
                          go_simp
                          with_reducible rfl
                        rotate_left
                        · simp only [Act.put, List.setIfInBounds_toArray, List.set_cons_zero, List.set_cons_succ, i64_w, i32_w]
                          rfl
                        refine pure_ (i := 6) (N := some 95) (v := ?_) (a' := ?_) #[true, true, false, false, true, true, true, false, true, true, false, false, false] rfl rfl (any_of HT_.out (by kernel_rfl)) (fun _ _ _ h => h) (Or.inl ⟨by rfl, ?_⟩) ?_ ?_
                        rotate_left
                        · intro w'
                          go_simp
                          with_reducible rfl
                        rotate_left
                        · simp only [Act.put, List.setIfInBounds_toArray, List.set_cons_zero, List.set_cons_succ, i64_w, i32_w]
                          rfl
                        refine take_ (i := 7) (N := some 96) (v := ?_) (a' := ?_) #[true, true, false, false, true, true, true, true, true, true, false, false, false] rfl rfl (take_ofW HT_.out HW_.out (by kernel_rfl)) (fun _ _ _ h => h) (Or.inl ⟨by rfl, ?_⟩) hHeld ?_ ?_
                        rotate_left
                        · rintro w' ⟨s0, s1, s2, s3⟩
                          go_simp
                          with_reducible rfl
                        rotate_left
                        · simp only [Act.put, List.setIfInBounds_toArray, List.set_cons_zero, List.set_cons_succ, i64_w, i32_w]
                          rfl
                        refine join_ (σ := Value) 2 #[true, true, true, true, true, true, true, true, true, true, true, false, false] (fun s_ => [(91, s_), (92, .string (strOfNums y218)), (99, .string t222)]) (fun s_ w' => (w'.cell? ⟨gb205, 0, none⟩ = some (.int .u8 a0_0) ∧ w'.cell? ⟨gb205, 1, none⟩ = some (.slice (some ad221) l0_1.length c0_1) ∧ w'.cell? ad221 = some (.int .u8 ((rd_T67 l0_1 0).f0)) ∧ w'.cell? ⟨ad221.block, ad221.off + 1, none⟩ = some (.slice A221_1 ((rd_T67 l0_1 0).f1).length c221_1)) ∧ (Kd.R (Kd.int .u8) 5 w' w.heap.size (fun _ => True) s_ y218) ∧ (w'.heap[gb205]? = some (.cells #[.int .u8 a0_0, .slice (some ad221) l0_1.length c0_1] 67 (0, 0))) ∧ (Below w.heap.size w w')) ?_ ?_
                        rotate_left
                        · intro hCont
                          refine two_ (i := 2) (j := 10) (Ni := some 91) (Nj := some 99) #[true, true, true, false, true, true, true, true, true, true, false, false, false] #[true, true, false, false, true, true, true, true, true, true, true, false, false] rfl rfl rfl rfl (two_of HT_.out (by kernel_rfl)) (by decide) (by decide) (fun K hK => ?_) (fun K hK => ?_)
                          · skip
                            refine Kd.R_lit_step (Kd.int .u8) _ 5 ?hg (N := 91) ?hd (xs := ([a0_0] : List Int)) (inner := [.int .u8 a0_0]) (ok := fun _ => True) (okp := fun _ => True) ?hr ?hp (fun _ hk => hk) trivial (Below.refl _ _) (Nat.le_refl _) (by simp) ?_; (case hd => rfl); (case hg => rfl); (case hr => first | (go_simp; done) | (go_simp; rfl)); (case hp => exact (Reps.one (show Kd.M (Kd.int .u8) _ _ _ a0_0 [.int .u8 a0_0] from rfl) (Reps.none _ _)))
                            intro v219 w53 ho54 hb hg_ hnew_
                            clear hg_ hnew_
                            (first | rw [← Ny218.out] at ho54 | (simp only [Int.reduceToNat] at ho54; rw [← Ny218.out] at ho54))
                            have n0_ := Aside0.mk (Kd.R_lower ho54 (below_size (by repeat (first | (with_reducible first | exact HB.out | apply below_alloc | apply pw_below_drewN | apply below_drew1 | refine below_set ?_ GE205.out) | exact HB.out))))
                            have n1_ := Aside0.mk (blk_below (g := gb205) (o := .cells #[.int .u8 a0_0, .slice (some ad221) l0_1.length c0_1] 67 (0, 0)) (by (with_reducible repeat (first | refine blk_drewN ?_ _ | refine blk_drew ?_ | refine blk_alloc ?_ _)); exact BK205.out) hb)
                            have n2_ := Aside0.mk (below_step (by repeat (first | (with_reducible first | exact HB.out | apply below_alloc | apply pw_below_drewN | apply below_drew1 | refine below_set ?_ GE205.out) | exact HB.out)) hb)
                            clear BK205
                            clear HB
                            have HO220 := n0_
                            have BK205 := n1_
                            have HB := n2_
                            clear n0_ n1_ n2_
                            clear hb ho54
                            refine hK.out _ _ ⟨(blk_cell BK205.out 0).trans rfl, (blk_cell BK205.out 1).trans rfl, ((HB.out.cell (World.block_lt_of_cell? w _ hw221_0)).trans hw221_0), ((HB.out.cell (World.block_lt_of_cell? w _ hw221_1)).trans hw221_1)⟩ (fun hHeld => ?_)
                            clear hK K
                            refine norm_ (a' := ?_) ?_ ?_
                            rotate_left
                            · show Act.put _ (some 91) _ = _
                              simp only [Act.put, List.setIfInBounds_toArray, List.set_cons_zero, List.set_cons_succ, i64_w, i32_w]
                              rfl
                            refine two_ (i := 3) (j := 10) (Ni := some 92) (Nj := some 99) #[true, true, true, true, true, true, true, true, true, true, false, false, false] #[true, true, true, false, true, true, true, true, true, true, true, false, false] rfl rfl rfl rfl (two_of HT_.out (by kernel_rfl)) (by decide) (by decide) (fun K hK => ?_) (fun K hK => ?_)
                            · skip
                              have hcv55 := own_string (P := Tryz.prog) Tryz.underlying22 Tryz.underlying5 Tryz.underlying9 (Kd.own_of_R HO220.out)
                              refine value_ (w1 := ?_) (v := ?_) (by rfl) rfl ?_ ?_
                              rotate_left 2
                              · go_simp
                                constructor
                                · rfl
                                · rfl
                              clear hcv55
                              refine hK.out _ _ ⟨(blk_cell BK205.out 0).trans rfl, (blk_cell BK205.out 1).trans rfl, ((HB.out.cell (World.block_lt_of_cell? w _ hw221_0)).trans hw221_0), ((HB.out.cell (World.block_lt_of_cell? w _ hw221_1)).trans hw221_1)⟩ (fun hHeld => ?_)
                              clear hK K
                              refine norm_ (a' := ?_) ?_ ?_
                              rotate_left
                              · show Act.put _ (some 92) _ = _
                                simp only [Act.put, List.setIfInBounds_toArray, List.set_cons_zero, List.set_cons_succ, i64_w, i32_w]
                                rfl
                              refine one_ (i := 10) (N := some 99) #[true, true, true, true, true, true, true, true, true, true, true, false, false] rfl rfl (one_of HT_.out (by kernel_rfl)) (by decide) (fun K hK => ?_)
                              refine goes_ Tryz.func47 (by kernel_rfl) rfl #[.agg #[.int .u8 ((rd_T67 l0_1 0).f0), .slice A221_1 ((rd_T67 l0_1 0).f1).length c221_1], .int .i64 a1, .bool a2] (by rfl) rfl rfl (by (try simp only [List.map_toArray, List.map_cons, List.map_nil]); first | done | rfl | (simp only [List.length_drop, List.length_take]; rfl)) ?_
                              with_reducible refine (ih kj15 (by have := HJ15.out; omega) ((rd_T67 l0_1 0).f0) _ _ ((rd_T67 l0_1 0).f1) a1 a2 t222 _ ?side1 ?side2 A49.out).mono ?_
                              (case side1 => repeat (first | exact (Kd.C_below HR221_1.out HB.out) | (with_reducible refine Kd.C_alloc ?_ _) | (with_reducible refine Kd.C_drewN ?_ _) | (with_reducible refine Kd.C_drew ?_)))
                              (case side2 => exact HC221_1.out)
                              rintro e w56 ⟨rfl, hb⟩
                              refine ⟨_, rfl, ?_⟩
                              have n0_ := Aside0.mk (Kd.R_below (by (with_reducible repeat (first | apply Kd.R_alloc | apply Kd.R_drewN | apply Kd.R_drew)); exact HO220.out) hb)
                              have n1_ := Aside0.mk (blk_below (g := gb205) (o := .cells #[.int .u8 a0_0, .slice (some ad221) l0_1.length c0_1] 67 (0, 0)) (by (with_reducible repeat (first | refine blk_drewN ?_ _ | refine blk_drew ?_ | refine blk_alloc ?_ _)); exact BK205.out) hb)
                              have n2_ := Aside0.mk (below_step (by repeat (first | (with_reducible first | exact HB.out | apply below_alloc | apply pw_below_drewN | apply below_drew1 | refine below_set ?_ GE205.out) | exact HB.out)) hb)
                              clear HO220
                              clear BK205
                              clear HB
                              have HO220 := n0_
                              have BK205 := n1_
                              have HB := n2_
                              clear n0_ n1_ n2_
                              (try clear hb)
                              (try clear hb2)
                              (try clear hk)
                              (try clear hi)
                              refine hK.out _ _ ⟨(blk_cell BK205.out 0).trans rfl, (blk_cell BK205.out 1).trans rfl, ((HB.out.cell (World.block_lt_of_cell? w _ hw221_0)).trans hw221_0), ((HB.out.cell (World.block_lt_of_cell? w _ hw221_1)).trans hw221_1)⟩ (fun hHeld => ?_)
                              clear hK K
                              refine norm_ (a' := ?_) ?_ ?_
                              rotate_left
                              · show Act.put _ (some 99) _ = _
                                simp only [Act.put, List.setIfInBounds_toArray, List.set_cons_zero, List.set_cons_succ, i64_w, i32_w]
                                rfl
                              exact norm_ (by simp only [putAll, Act.put, List.setIfInBounds_toArray, List.set_cons_zero, List.set_cons_succ]) (hCont (v219) _ ⟨hHeld, (by (with_reducible repeat (first | apply Kd.R_alloc | apply Kd.R_drewN | apply Kd.R_drew)); exact HO220.out), (by (with_reducible repeat (first | refine blk_drewN ?_ _ | refine blk_drew ?_ | refine blk_alloc ?_ _)); exact BK205.out), (by repeat (first | (with_reducible first | exact HB.out | apply below_alloc | apply pw_below_drewN | apply below_drew1 | refine below_set ?_ GE205.out) | exact HB.out))⟩)
                            · skip
                              refine goes_ Tryz.func47 (by kernel_rfl) rfl #[.agg #[.int .u8 ((rd_T67 l0_1 0).f0), .slice A221_1 ((rd_T67 l0_1 0).f1).length c221_1], .int .i64 a1, .bool a2] (by rfl) rfl rfl (by (try simp only [List.map_toArray, List.map_cons, List.map_nil]); first | done | rfl | (simp only [List.length_drop, List.length_take]; rfl)) ?_
                              with_reducible refine (ih kj15 (by have := HJ15.out; omega) ((rd_T67 l0_1 0).f0) _ _ ((rd_T67 l0_1 0).f1) a1 a2 t222 _ ?side1 ?side2 A49.out).mono ?_
                              (case side1 => repeat (first | exact (Kd.C_below HR221_1.out HB.out) | (with_reducible refine Kd.C_alloc ?_ _) | (with_reducible refine Kd.C_drewN ?_ _) | (with_reducible refine Kd.C_drew ?_)))
                              (case side2 => exact HC221_1.out)
                              rintro e w55 ⟨rfl, hb⟩
                              refine ⟨_, rfl, ?_⟩
                              have n0_ := Aside0.mk (Kd.R_below (by (with_reducible repeat (first | apply Kd.R_alloc | apply Kd.R_drewN | apply Kd.R_drew)); exact HO220.out) hb)
                              have n1_ := Aside0.mk (blk_below (g := gb205) (o := .cells #[.int .u8 a0_0, .slice (some ad221) l0_1.length c0_1] 67 (0, 0)) (by (with_reducible repeat (first | refine blk_drewN ?_ _ | refine blk_drew ?_ | refine blk_alloc ?_ _)); exact BK205.out) hb)
                              have n2_ := Aside0.mk (below_step (by repeat (first | (with_reducible first | exact HB.out | apply below_alloc | apply pw_below_drewN | apply below_drew1 | refine below_set ?_ GE205.out) | exact HB.out)) hb)
                              clear HO220
                              clear BK205
                              clear HB
                              have HO220 := n0_
                              have BK205 := n1_
                              have HB := n2_
                              clear n0_ n1_ n2_
                              (try clear hb)
                              (try clear hb2)
                              (try clear hk)
                              (try clear hi)
                              refine hK.out _ _ ⟨(blk_cell BK205.out 0).trans rfl, (blk_cell BK205.out 1).trans rfl, ((HB.out.cell (World.block_lt_of_cell? w _ hw221_0)).trans hw221_0), ((HB.out.cell (World.block_lt_of_cell? w _ hw221_1)).trans hw221_1)⟩ (fun hHeld => ?_)
                              clear hK K
                              refine norm_ (a' := ?_) ?_ ?_
                              rotate_left
                              · show Act.put _ (some 99) _ = _
                                simp only [Act.put, List.setIfInBounds_toArray, List.set_cons_zero, List.set_cons_succ, i64_w, i32_w]
                                rfl
                              refine one_ (i := 3) (N := some 92) #[true, true, true, true, true, true, true, true, true, true, true, false, false] rfl rfl (one_of HT_.out (by kernel_rfl)) (by decide) (fun K hK => ?_)
                              have hcv56 := own_string (P := Tryz.prog) Tryz.underlying22 Tryz.underlying5 Tryz.underlying9 (Kd.own_of_R HO220.out)
                              refine value_ (w1 := ?_) (v := ?_) (by rfl) rfl ?_ ?_
                              rotate_left 2
                              · go_simp
                                constructor
                                · rfl
                                · rfl
                              clear hcv56
                              refine hK.out _ _ ⟨(blk_cell BK205.out 0).trans rfl, (blk_cell BK205.out 1).trans rfl, ((HB.out.cell (World.block_lt_of_cell? w _ hw221_0)).trans hw221_0), ((HB.out.cell (World.block_lt_of_cell? w _ hw221_1)).trans hw221_1)⟩ (fun hHeld => ?_)
                              clear hK K
                              refine norm_ (a' := ?_) ?_ ?_
                              rotate_left
                              · show Act.put _ (some 92) _ = _
                                simp only [Act.put, List.setIfInBounds_toArray, List.set_cons_zero, List.set_cons_succ, i64_w, i32_w]
                                rfl
                              exact norm_ (by simp only [putAll, Act.put, List.setIfInBounds_toArray, List.set_cons_zero, List.set_cons_succ]) (hCont (v219) _ ⟨hHeld, (by (with_reducible repeat (first | apply Kd.R_alloc | apply Kd.R_drewN | apply Kd.R_drew)); exact HO220.out), (by (with_reducible repeat (first | refine blk_drewN ?_ _ | refine blk_drew ?_ | refine blk_alloc ?_ _)); exact BK205.out), (by repeat (first | (with_reducible first | exact HB.out | apply below_alloc | apply pw_below_drewN | apply below_drew1 | refine below_set ?_ GE205.out) | exact HB.out))⟩)
                          · skip
                            refine goes_ Tryz.func47 (by kernel_rfl) rfl #[.agg #[.int .u8 ((rd_T67 l0_1 0).f0), .slice A221_1 ((rd_T67 l0_1 0).f1).length c221_1], .int .i64 a1, .bool a2] (by rfl) rfl rfl (by (try simp only [List.map_toArray, List.map_cons, List.map_nil]); first | done | rfl | (simp only [List.length_drop, List.length_take]; rfl)) ?_
                            with_reducible refine (ih kj15 (by have := HJ15.out; omega) ((rd_T67 l0_1 0).f0) _ _ ((rd_T67 l0_1 0).f1) a1 a2 t222 _ ?side1 ?side2 A49.out).mono ?_
                            (case side1 => repeat (first | exact (Kd.C_below HR221_1.out HB.out) | (with_reducible refine Kd.C_alloc ?_ _) | (with_reducible refine Kd.C_drewN ?_ _) | (with_reducible refine Kd.C_drew ?_)))
                            (case side2 => exact HC221_1.out)
                            rintro e w53 ⟨rfl, hb⟩
                            refine ⟨_, rfl, ?_⟩
                            have n0_ := Aside0.mk (blk_below (g := gb205) (o := .cells #[.int .u8 a0_0, .slice (some ad221) l0_1.length c0_1] 67 (0, 0)) (by (with_reducible repeat (first | refine blk_drewN ?_ _ | refine blk_drew ?_ | refine blk_alloc ?_ _)); exact BK205.out) hb)
                            have n1_ := Aside0.mk (below_step (by repeat (first | (with_reducible first | exact HB.out | apply below_alloc | apply pw_below_drewN | apply below_drew1 | refine below_set ?_ GE205.out) | exact HB.out)) hb)
                            clear BK205
                            clear HB
                            have BK205 := n0_
                            have HB := n1_
                            clear n0_ n1_
                            (try clear hb)
                            (try clear hb2)
                            (try clear hk)
                            (try clear hi)
                            refine hK.out _ _ ⟨(blk_cell BK205.out 0).trans rfl, (blk_cell BK205.out 1).trans rfl, ((HB.out.cell (World.block_lt_of_cell? w _ hw221_0)).trans hw221_0), ((HB.out.cell (World.block_lt_of_cell? w _ hw221_1)).trans hw221_1)⟩ (fun hHeld => ?_)
                            clear hK K
                            refine norm_ (a' := ?_) ?_ ?_
                            rotate_left
                            · show Act.put _ (some 99) _ = _
                              simp only [Act.put, List.setIfInBounds_toArray, List.set_cons_zero, List.set_cons_succ, i64_w, i32_w]
                              rfl
                            refine one_ (i := 2) (N := some 91) #[true, true, true, false, true, true, true, true, true, true, true, false, false] rfl rfl (one_of HT_.out (by kernel_rfl)) (by decide) (fun K hK => ?_)
                            refine Kd.R_lit_step (Kd.int .u8) _ 5 ?hg (N := 91) ?hd (xs := ([a0_0] : List Int)) (inner := [.int .u8 a0_0]) (ok := fun _ => True) (okp := fun _ => True) ?hr ?hp (fun _ hk => hk) trivial (Below.refl _ _) (Nat.le_refl _) (by simp) ?_; (case hd => rfl); (case hg => rfl); (case hr => first | (go_simp; done) | (go_simp; rfl)); (case hp => exact (Reps.one (show Kd.M (Kd.int .u8) _ _ _ a0_0 [.int .u8 a0_0] from rfl) (Reps.none _ _)))
                            intro v219 w54 ho55 hb hg_ hnew_
                            clear hg_ hnew_
                            (first | rw [← Ny218.out] at ho55 | (simp only [Int.reduceToNat] at ho55; rw [← Ny218.out] at ho55))
                            have n0_ := Aside0.mk (Kd.R_lower ho55 (below_size (by repeat (first | (with_reducible first | exact HB.out | apply below_alloc | apply pw_below_drewN | apply below_drew1 | refine below_set ?_ GE205.out) | exact HB.out))))
                            have n1_ := Aside0.mk (blk_below (g := gb205) (o := .cells #[.int .u8 a0_0, .slice (some ad221) l0_1.length c0_1] 67 (0, 0)) (by (with_reducible repeat (first | refine blk_drewN ?_ _ | refine blk_drew ?_ | refine blk_alloc ?_ _)); exact BK205.out) hb)
                            have n2_ := Aside0.mk (below_step (by repeat (first | (with_reducible first | exact HB.out | apply below_alloc | apply pw_below_drewN | apply below_drew1 | refine below_set ?_ GE205.out) | exact HB.out)) hb)
                            clear BK205
                            clear HB
                            have HO220 := n0_
                            have BK205 := n1_
                            have HB := n2_
                            clear n0_ n1_ n2_
                            clear hb ho55
                            refine hK.out _ _ ⟨(blk_cell BK205.out 0).trans rfl, (blk_cell BK205.out 1).trans rfl, ((HB.out.cell (World.block_lt_of_cell? w _ hw221_0)).trans hw221_0), ((HB.out.cell (World.block_lt_of_cell? w _ hw221_1)).trans hw221_1)⟩ (fun hHeld => ?_)
                            clear hK K
                            refine norm_ (a' := ?_) ?_ ?_
                            rotate_left
                            · show Act.put _ (some 91) _ = _
                              simp only [Act.put, List.setIfInBounds_toArray, List.set_cons_zero, List.set_cons_succ, i64_w, i32_w]
                              rfl
                            refine one_ (i := 3) (N := some 92) #[true, true, true, true, true, true, true, true, true, true, true, false, false] rfl rfl (one_of HT_.out (by kernel_rfl)) (by decide) (fun K hK => ?_)
                            have hcv56 := own_string (P := Tryz.prog) Tryz.underlying22 Tryz.underlying5 Tryz.underlying9 (Kd.own_of_R HO220.out)
                            refine value_ (w1 := ?_) (v := ?_) (by rfl) rfl ?_ ?_
                            rotate_left 2
                            · go_simp
                              constructor
                              · rfl
                              · rfl
                            clear hcv56
                            refine hK.out _ _ ⟨(blk_cell BK205.out 0).trans rfl, (blk_cell BK205.out 1).trans rfl, ((HB.out.cell (World.block_lt_of_cell? w _ hw221_0)).trans hw221_0), ((HB.out.cell (World.block_lt_of_cell? w _ hw221_1)).trans hw221_1)⟩ (fun hHeld => ?_)
                            clear hK K
                            refine norm_ (a' := ?_) ?_ ?_
                            rotate_left
                            · show Act.put _ (some 92) _ = _
                              simp only [Act.put, List.setIfInBounds_toArray, List.set_cons_zero, List.set_cons_succ, i64_w, i32_w]
                              rfl
                            exact norm_ (by simp only [putAll, Act.put, List.setIfInBounds_toArray, List.set_cons_zero, List.set_cons_succ]) (hCont (v219) _ ⟨hHeld, (by (with_reducible repeat (first | apply Kd.R_alloc | apply Kd.R_drewN | apply Kd.R_drew)); exact HO220.out), (by (with_reducible repeat (first | refine blk_drewN ?_ _ | refine blk_drew ?_ | refine blk_alloc ?_ _)); exact BK205.out), (by repeat (first | (with_reducible first | exact HB.out | apply below_alloc | apply pw_below_drewN | apply below_drew1 | refine below_set ?_ GE205.out) | exact HB.out))⟩)
                        rintro v219 w57 ⟨hS_, h0_, h1_, h2_⟩
                        have n0_ : Aside0 (Kd.R (Kd.int .u8) 5 w57 w.heap.size (fun _ => True) v219 y218) := ⟨h0_⟩
                        have n1_ : Aside0 (w57.heap[gb205]? = some (.cells #[.int .u8 a0_0, .slice (some ad221) l0_1.length c0_1] 67 (0, 0))) := ⟨h1_⟩
                        have n2_ : Aside0 (Below w.heap.size w w57) := ⟨h2_⟩
                        clear BK205
                        clear HB
                        clear h0_ h1_ h2_
                        have HO220 := n0_
                        have BK205 := n1_
                        have HB := n2_
                        clear n0_ n1_ n2_
                        have hHeld : w57.cell? ⟨gb205, 0, none⟩ = some (.int .u8 a0_0) ∧ w57.cell? ⟨gb205, 1, none⟩ = some (.slice (some ad221) l0_1.length c0_1) ∧ w57.cell? ad221 = some (.int .u8 ((rd_T67 l0_1 0).f0)) ∧ w57.cell? ⟨ad221.block, ad221.off + 1, none⟩ = some (.slice A221_1 ((rd_T67 l0_1 0).f1).length c221_1) := hS_
                        refine norm_ (a' := ?_) ?_ ?_
                        rotate_left
                        · simp only [putAll, Act.put, List.setIfInBounds_toArray, List.set_cons_zero, List.set_cons_succ]
                          rfl
                        refine pure_ (i := 11) (N := some 100) (v := ?_) (a' := ?_) #[true, true, true, true, true, true, true, true, true, true, true, true, false] rfl rfl (any_of HT_.out (by kernel_rfl)) (fun _ _ _ h => h) (Or.inl ⟨by rfl, ?_⟩) ?_ ?_
                        rotate_left
                        · intro w'
                          go_simp
                          with_reducible rfl
                        rotate_left
                        · simp only [Act.put, List.setIfInBounds_toArray, List.set_cons_zero, List.set_cons_succ, i64_w, i32_w]
                          rfl
                        refine pure_ (i := 12) (N := some 6) (v := ?_) (a' := ?_) #[true, true, true, true, true, true, true, true, true, true, true, true, true] rfl rfl (any_of HT_.out (by kernel_rfl)) (fun _ _ _ h => h) (Or.inl ⟨by rfl, ?_⟩) ?_ ?_
                        rotate_left
                        · intro w'
                          go_simp
                          with_reducible rfl
                        rotate_left
                        · simp only [Act.put, List.setIfInBounds_toArray, List.set_cons_zero, List.set_cons_succ, i64_w, i32_w]
                          rfl
                        refine done_ (done_of HT_.out (by kernel_rfl)) ?_
                        try go_wp2
                        go_ret
                        exact ⟨by first | rfl | (simp [errW_none, errW_some] <;> rfl) | (simp [*, errW_none, errW_some] <;> rfl) | (exfalso; simp_all; done), by repeat (first | (with_reducible first | exact HB.out | apply below_alloc | apply pw_below_drewN | apply below_drew1 | refine below_set ?_ GE205.out) | exact HB.out)⟩
                      · rw [if_neg c50] at H
                        exact absurd H (by simp)
                    · rw [if_neg c48] at H
                      exact absurd H (by simp)
                  · rw [if_neg c47] at H
                    have c47b0 : decide (a0_0 ≤ 57) = false := decide_eq_false c47
                    clear c47
                    have H' := Aside0.mk H
                    clear H
                    have hcz58_0 : wc.cell? ⟨gb205, 0, none⟩ = some (.int .u8 a0_0) := (blk_cell BK205.out 0).trans rfl
                    have hcz58_1 : wc.cell? ⟨gb205, 1, none⟩ = some (.slice A0_1 l0_1.length c0_1) := (blk_cell BK205.out 1).trans rfl
                    have hfz58_0 := blk_frozen BK205.out 0
                    have hfz58_1 := blk_frozen BK205.out 1
                    go_wp2
                    go_meet
                    case rel => exact ⟨_, H', ⟨by have := HJ15.out; first | omega | exact Nat.le_refl _⟩, ⟨by (with_reducible repeat (first | refine blk_drewN ?_ _ | refine blk_drew ?_ | refine blk_alloc ?_ _)); exact BK205.out⟩, ⟨by repeat (first | (with_reducible first | exact HB.out | apply below_alloc | apply pw_below_drewN | apply below_drew1 | refine below_set ?_ GE205.out) | exact HB.out)⟩⟩
                · rw [if_neg c46] at H
                  have c46b0 : decide (50 ≤ a0_0) = false := decide_eq_false c46
                  clear c46
                  have H' := Aside0.mk H
                  clear H
                  have hcz59_0 : wc.cell? ⟨gb205, 0, none⟩ = some (.int .u8 a0_0) := (blk_cell BK205.out 0).trans rfl
                  have hcz59_1 : wc.cell? ⟨gb205, 1, none⟩ = some (.slice A0_1 l0_1.length c0_1) := (blk_cell BK205.out 1).trans rfl
                  have hfz59_0 := blk_frozen BK205.out 0
                  have hfz59_1 := blk_frozen BK205.out 1
                  go_wp2
                  go_meet
                  case rel => exact ⟨_, H', ⟨by have := HJ15.out; first | omega | exact Nat.le_refl _⟩, ⟨by (with_reducible repeat (first | refine blk_drewN ?_ _ | refine blk_drew ?_ | refine blk_alloc ?_ _)); exact BK205.out⟩, ⟨by repeat (first | (with_reducible first | exact HB.out | apply below_alloc | apply pw_below_drewN | apply below_drew1 | refine below_set ?_ GE205.out) | exact HB.out)⟩⟩
  case rest =>
    clear HC4
    try clear c2
    try clear p2
    try clear q2
    try clear hx2
    try clear qi2
    try clear c3
    try clear c4
    try clear c5
    try clear hcv5
    try clear c21
    try clear p21
    try clear q21
    try clear hx21
    try clear qi21
    try clear c22
    try clear p22
    try clear q22
    try clear hx22
    try clear qi22
    try clear c33
    try clear c33b0
    try clear c33b1
    try clear c34
    try clear c36
    try clear c37
    try clear c38
    try clear c40
    try clear c41
    try clear c46
    try clear c46b0
    try clear c47
    try clear c47b0
    try clear c48
    try clear c48b0
    try clear c48b1
    try clear c50
    try clear c50b0
    try clear c50b1
    try clear c50b2
    try clear hcv55
    try clear hcv56
    try clear hcz51_0
    try clear hcz51_1
    try clear hcz58_0
    try clear hcz58_1
    try clear hcz59_0
    try clear hcz59_1
    try clear hfz51_0
    try clear hfz51_1
    try clear hfz58_0
    try clear hfz58_1
    try clear hfz59_0
    try clear hfz59_1
    try clear hx214_0
    try clear hx214_1
    try clear hx216_0
    try clear hx216_1
    try clear hx221_0
    try clear hx221_1
    try clear p216
    try clear p221
    try clear q216
    try clear q221
    obtain ⟨kq, HA, HJ3, BK205, HB⟩ := hcut
    cases kq with
    | zero => exact absurd HA.out (by simp [spec_l10Tidy.j1])
    | succ kj3 =>
      have H := HA.out
      clear HA
      simp only [spec_l10Tidy.j1] at H
      replace H := Option.bind_eq_some_iff.mp H
      obtain ⟨t223, A600, H⟩ := H
      replace H : (if a2 = true then ((spec_l10Turned.f kj3 t223 2).bind fun t224 => (some (strOfNums (([t224] : List Int))))) else (some (strOfNums (([t223] : List Int))))) = some r := H
      have A60 := Aside0.mk A600
      clear A600
      by_cases c61 : a2 = true
      · subst c61
        have H1 : ((spec_l10Turned.f kj3 t223 2).bind fun t224 => (some (strOfNums (([t224] : List Int))))) = some r := by rw [if_pos rfl] at H; exact H
        clear H
        have H := H1
        clear H1
        replace H := Option.bind_eq_some_iff.mp H
        obtain ⟨t224, A620, H⟩ := H
        replace H : (some (strOfNums (([t224] : List Int)))) = some r := H
        have A62 := Aside0.mk A620
        clear A620
        obtain ⟨y225, hy225⟩ : ∃ y_ : List Int, y_ = (([t224] : List Int)) := ⟨_, rfl⟩
        replace H : (some (strOfNums y225)) = some r := by first | (rw [hy225]; with_reducible exact H) | (have H2_ := (Option.bind_some _ _).symm.trans H; rw [hy225]; with_reducible exact H2_) | (have H2_ := (Option.bind_some _ _).symm.trans H; with_reducible exact H2_) | with_reducible exact H | (rw [hy225]; exact H) | exact H
        have Ny225 := Aside0.mk hy225
        clear hy225
        obtain rfl := Option.some.inj H
        have hcz63_0 : wc.cell? ⟨gb205, 0, none⟩ = some (.int .u8 a0_0) := (blk_cell BK205.out 0).trans rfl
        have hcz63_1 : wc.cell? ⟨gb205, 1, none⟩ = some (.slice A0_1 l0_1.length c0_1) := (blk_cell BK205.out 1).trans rfl
        have hfz63_0 := blk_frozen BK205.out 0
        have hfz63_1 := blk_frozen BK205.out 1
        go_wp2_with (first | ((with_reducible refine gate_callee (f := 111) rfl ?_); refine goesL_ (some 104) rfl rfl Tryz.func111 (by kernel_rfl) rfl #[.int .u8 a0_0, .int .i64 a1] rfl (by (try simp only [List.map_toArray, List.map_cons, List.map_nil]); first | done | rfl | (simp only [List.length_drop, List.length_take]; rfl)) ?_; (with_reducible refine (spec_l10Turned.calls kj3 a0_0 a1 t223 _ A60.out).mono ?_); rintro e w' ⟨rfl, ⟨nd, rfl⟩⟩; refine ⟨_, rfl, ?_⟩) | ((with_reducible refine gate_callee (f := 111) rfl ?_); refine goesL_ (some 107) rfl rfl Tryz.func111 (by kernel_rfl) rfl #[.int .u8 t223, .int .i64 2] rfl (by (try simp only [List.map_toArray, List.map_cons, List.map_nil]); first | done | rfl | (simp only [List.length_drop, List.length_take]; rfl)) ?_; (with_reducible refine (spec_l10Turned.calls kj3 t223 2 t224 _ A62.out).mono ?_); rintro e w' ⟨rfl, ⟨nd, rfl⟩⟩; refine ⟨_, rfl, ?_⟩) | ((with_reducible refine gate_dst (N := 109) rfl ?_); refine Kd.R_lit (Kd.int .u8) _ 5 ?hg (N := 109) ?hd (xs := ([t224] : List Int)) (inner := [.int .u8 t224]) (ok := fun _ => True) (okp := fun _ => True) ?hr ?hp (fun _ hk => hk) trivial (Below.refl _ _) (Nat.le_refl _) (by simp) ?_; (case hd => rfl); (case hg => rfl); (case hr => first | (go_simp; done) | (go_simp; rfl)); (case hp => exact (Reps.one (show Kd.M (Kd.int .u8) _ _ _ t224 [.int .u8 t224] from rfl) (Reps.none _ _))); intro v226 w64 ho65 hb hg_ hnew_; clear hg_ hnew_; (first | rw [← Ny225.out] at ho65 | (simp only [Int.reduceToNat] at ho65; rw [← Ny225.out] at ho65)); have n0_ := Aside0.mk (Kd.R_lower ho65 (below_size (by repeat (first | (with_reducible first | exact HB.out | apply below_alloc | apply pw_below_drewN | apply below_drew1 | refine below_set ?_ GE205.out) | exact HB.out)))); have n1_ := Aside0.mk (blk_below (g := gb205) (o := .cells #[.int .u8 a0_0, .slice A0_1 l0_1.length c0_1] 67 (0, 0)) (by (with_reducible repeat (first | refine blk_drewN ?_ _ | refine blk_drew ?_ | refine blk_alloc ?_ _)); exact BK205.out) hb); have n2_ := Aside0.mk (below_step (by repeat (first | (with_reducible first | exact HB.out | apply below_alloc | apply pw_below_drewN | apply below_drew1 | refine below_set ?_ GE205.out) | exact HB.out)) hb); clear BK205; clear HB; have HO227 := n0_; have BK205 := n1_; have HB := n2_; clear n0_ n1_ n2_; clear hb ho65; have hcv66 := own_string (P := Tryz.prog) Tryz.underlying22 Tryz.underlying5 Tryz.underlying9 (Kd.own_of_R HO227.out)))
        go_ret
        exact ⟨by first | rfl | (simp [errW_none, errW_some] <;> rfl) | (simp [*, errW_none, errW_some] <;> rfl) | (exfalso; simp_all; done), by repeat (first | (with_reducible first | exact HB.out | apply below_alloc | apply pw_below_drewN | apply below_drew1 | refine below_set ?_ GE205.out) | exact HB.out)⟩
      · replace c61 := Bool.eq_false_iff.mpr c61
        subst c61
        have H1 : (some (strOfNums (([t223] : List Int)))) = some r := by rw [if_neg (show ¬ (false = true) by decide)] at H; exact H
        clear H
        have H := H1
        clear H1
        obtain ⟨y228, hy228⟩ : ∃ y_ : List Int, y_ = (([t223] : List Int)) := ⟨_, rfl⟩
        replace H : (some (strOfNums y228)) = some r := by first | (rw [hy228]; with_reducible exact H) | (have H2_ := (Option.bind_some _ _).symm.trans H; rw [hy228]; with_reducible exact H2_) | (have H2_ := (Option.bind_some _ _).symm.trans H; with_reducible exact H2_) | with_reducible exact H | (rw [hy228]; exact H) | exact H
        have Ny228 := Aside0.mk hy228
        clear hy228
        obtain rfl := Option.some.inj H
        have hcz67_0 : wc.cell? ⟨gb205, 0, none⟩ = some (.int .u8 a0_0) := (blk_cell BK205.out 0).trans rfl
        have hcz67_1 : wc.cell? ⟨gb205, 1, none⟩ = some (.slice A0_1 l0_1.length c0_1) := (blk_cell BK205.out 1).trans rfl
        have hfz67_0 := blk_frozen BK205.out 0
        have hfz67_1 := blk_frozen BK205.out 1
        go_wp2_with (first | ((with_reducible refine gate_callee (f := 111) rfl ?_); refine goesL_ (some 104) rfl rfl Tryz.func111 (by kernel_rfl) rfl #[.int .u8 a0_0, .int .i64 a1] rfl (by (try simp only [List.map_toArray, List.map_cons, List.map_nil]); first | done | rfl | (simp only [List.length_drop, List.length_take]; rfl)) ?_; (with_reducible refine (spec_l10Turned.calls kj3 a0_0 a1 t223 _ A60.out).mono ?_); rintro e w' ⟨rfl, ⟨nd, rfl⟩⟩; refine ⟨_, rfl, ?_⟩) | ((with_reducible refine gate_dst (N := 109) rfl ?_); refine Kd.R_lit (Kd.int .u8) _ 5 ?hg (N := 109) ?hd (xs := ([t223] : List Int)) (inner := [.int .u8 t223]) (ok := fun _ => True) (okp := fun _ => True) ?hr ?hp (fun _ hk => hk) trivial (Below.refl _ _) (Nat.le_refl _) (by simp) ?_; (case hd => rfl); (case hg => rfl); (case hr => first | (go_simp; done) | (go_simp; rfl)); (case hp => exact (Reps.one (show Kd.M (Kd.int .u8) _ _ _ t223 [.int .u8 t223] from rfl) (Reps.none _ _))); intro v229 w68 ho69 hb hg_ hnew_; clear hg_ hnew_; (first | rw [← Ny228.out] at ho69 | (simp only [Int.reduceToNat] at ho69; rw [← Ny228.out] at ho69)); have n0_ := Aside0.mk (Kd.R_lower ho69 (below_size (by repeat (first | (with_reducible first | exact HB.out | apply below_alloc | apply pw_below_drewN | apply below_drew1 | refine below_set ?_ GE205.out) | exact HB.out)))); have n1_ := Aside0.mk (blk_below (g := gb205) (o := .cells #[.int .u8 a0_0, .slice A0_1 l0_1.length c0_1] 67 (0, 0)) (by (with_reducible repeat (first | refine blk_drewN ?_ _ | refine blk_drew ?_ | refine blk_alloc ?_ _)); exact BK205.out) hb); have n2_ := Aside0.mk (below_step (by repeat (first | (with_reducible first | exact HB.out | apply below_alloc | apply pw_below_drewN | apply below_drew1 | refine below_set ?_ GE205.out) | exact HB.out)) hb); clear BK205; clear HB; have HO230 := n0_; have BK205 := n1_; have HB := n2_; clear n0_ n1_ n2_; clear hb ho69; have hcv70 := own_string (P := Tryz.prog) Tryz.underlying22 Tryz.underlying5 Tryz.underlying9 (Kd.own_of_R HO230.out)))
        go_ret
        exact ⟨by first | rfl | (simp [errW_none, errW_some] <;> rfl) | (simp [*, errW_none, errW_some] <;> rfl) | (exfalso; simp_all; done), by repeat (first | (with_reducible first | exact HB.out | apply below_alloc | apply pw_below_drewN | apply below_drew1 | refine below_set ?_ GE205.out) | exact HB.out)⟩

end Go.Proofs.YtcmpkabpmmmhoaaGreatDoor.PFnExecuteTidy
