/- Written by a program of this claim out of the translation: plain Lean functions and their contracts; what is proved: each Go function of this text comes to what its Lean function says. -/
import Derived.Test.YthgphegpkjngaaaPFnPartMostx0
import Derived.Test.YthgphegpkjngaaaPFnPartMostx1
import Derived.Test.YthgphegpkjngaaaPFnPartMostx3
import Derived.Test.YthgphegpkjngaaaPFnPartMostx6
import Derived.Test.YthgphegpkjngaaaPFnPartMostx7
namespace Go.Proofs.Ythgphegpkjngaaa.PFnPartMost
open Go.RowKit Go.Proofs.YthgphegpkjngaaaW.PrintWords Go.Proofs.YthgphegpkjngaaaW.PrintLast Go.Proofs.YthgphegpkjngaaaW.PrintMore
attribute [local go_sem] max2_int min2_int max_two min_two max_three min_three max_four min_four   -- for this text's walks alone
set_option linter.unusedVariables false
set_option linter.unusedSimpArgs false

/-! ### slices_Clone_int_int: function 38, by hand -/
def slices_Clone_int_int.f (_k : Nat) (l : List Int) : Option (List Int) := if 0 < l.length then (if l.length < 1000 then some ([] ++ l) else none) else none
theorem slices_Clone_int_int.mono : ∀ a0 k, LeO (slices_Clone_int_int.f k a0) (slices_Clone_int_int.f (k + 1) a0) := fun _ _ => LeO.refl _
set_option maxHeartbeats 4000000 in
set_option maxRecDepth 100000 in
theorem slices_Clone_int_int.calls (k : Nat) (A0 : Option Addr) (c0 : Nat) (l0 : List Int) (r : List Int) (w : World) (hr0 : Kd.C (Kd.int .i64) w A0 l0.length l0) (hc0 : l0.length ≤ c0) (h : slices_Clone_int_int.f k l0 = some r) :
    Calls Try.prog 38 #[.slice A0 l0.length c0] w fun e w' => ∃ v0_ : Value, e = .returned (v0_) ∧ Kd.R (Kd.int .i64) 3 w' w.heap.size (fun _ => True) v0_ r ∧ Below w.heap.size w w' := by
  unfold slices_Clone_int_int.f at h
  by_cases h0 : 0 < l0.length
  · rw [if_pos h0] at h
    by_cases h1 : l0.length < 1000
    · rw [if_pos h1] at h
      obtain rfl := Option.some.inj h
      have HR0 := Aside0.mk hr0
      have HC0 := Aside0.mk hc0
      have LM := Aside0.mk h1
      obtain ⟨ad, e1, hx⟩ := Kd.at_int hr0 0 (by omega) (by omega)
      subst e1
      clear hr0 hc0 h h1 hx
      have HB := Aside0.mk (Below.refl w.heap.size w)
      have he : ∀ W : World, (binOp .eql 23 (.slice (some ad) l0.length c0) (.slice none 0 0)).run Try.prog W = .ok (.bool false) W := fun _ => rfl
      go_enter Try.func38, Try.ntmps38
      go_wp2_with (first | ((with_reducible refine gate_dst (N := 5) rfl ?_); (try (refine gate_guard (by rfl) ?_; dsimp only)); refine Kd.R_lit (Kd.int .i64) _ 3 ?hg (N := 5) ?hd (xs := ([] : List Int)) (inner := []) (ok := fun _ => True) (okp := fun _ => True) ?hr ?hp (fun _ hk => hk) trivial (Below.refl _ _) (Nat.le_refl _) (by simp) ?_; (case hd => rfl); (case hg => rfl); (case hr => first | (go_simp; done) | (go_simp; rfl)); (case hp => exact (Reps.none _ _)); intro v129 w24 ho25 hb hg_ hnew_; clear hg_ hnew_; have n0_ := Aside0.mk (Kd.R_lower (Kd.R_newM (M := fun k_ => (w.heap.size ≤ k_)) ho25 (below_size HB.out) (fun k_ h_ => h_)) (below_size HB.out)); have n1_ := Aside0.mk (below_step HB.out hb); clear HB; have HO130 := n0_; have HB := n1_; clear n0_ n1_; clear hb ho25) | ((with_reducible refine gate_builtin (b := .append) (xs := #[.tmp 5, .tmp 6]) rfl ?_); (try (refine gate_guard (by rfl) ?_; dsimp only)); at_builtin; refine Kd.R_append_rows (Kd.int .i64) (w0 := w) w.heap.size rfl (.tmp 5) (.tmp 6) 23 3 (.int .i64 0) 8 rfl Try.underlying23 info3 rfl (by decide) (by omega) v129 [] l0 _ _ _ (fun _ => True) (fun _ => False) rfl rfl ?aO ?aR (fun _ _ h => h) (fun _ h => h.elim) ?aF ?aB ?aS ?aL ?_; (case aR => repeat (first | exact (Kd.C_below HR0.out HB.out) | (with_reducible refine Kd.C_alloc ?_ _) | (with_reducible refine Kd.C_drewN ?_ _) | (with_reducible refine Kd.C_drew ?_))); (case aB => exact (by repeat (first | exact HB.out | apply below_alloc | apply pw_below_drewN | apply below_drew1))); (case aF => exact (fun k_ hk => trivial)); (case aO => exact (by (with_reducible repeat (first | apply Kd.R_alloc | apply Kd.R_drewN | apply Kd.R_drew)); exact Kd.R_mono HO130.out (fun _ hk => trivial))); (case aS => exact (below_size (by repeat (first | exact HB.out | apply below_alloc | apply pw_below_drewN | apply below_drew1)))); (case aL => have := LM.out; simp; omega); intro v132 w26 ho hb hg hat; have n0_ := Aside0.mk (hb); have n1_ := Aside0.mk (ho); clear HB; clear HO130; have HB := n0_; have HO133 := n1_; clear n0_ n1_; clear ho hb hg hat))
      go_ret
      exact ⟨_, rfl, HO133.out, HB.out⟩
    · rw [if_neg h1] at h
      exact absurd h (by simp)
  · rw [if_neg h0] at h
    exact absurd h (by simp)

-- NOT PRINTED: function 60 (slices_insertionSortOrdered_int)

-- NOT PRINTED: function 71 (slices_siftDownOrdered_int)

-- NOT PRINTED: function 61 (slices_heapSortOrdered_int)

-- NOT PRINTED: function 68 (bits_Len32)

-- NOT PRINTED: function 69 (bits_Len64)

-- NOT PRINTED: function 53 (bits_Len)

-- NOT PRINTED: function 72 (slices_nextPowerOfTwo)

-- NOT PRINTED: function 73 (slices_xorshift_Next)

-- NOT PRINTED: function 62 (slices_breakPatternsOrdered_int)

-- NOT PRINTED: function 76 (slices_order2Ordered_int)

-- NOT PRINTED: function 75 (slices_medianOrdered_int)

-- NOT PRINTED: function 74 (slices_medianAdjacentOrdered_int)

-- NOT PRINTED: function 63 (slices_choosePivotOrdered_int)

-- NOT PRINTED: function 64 (slices_reverseRangeOrdered_int)

-- NOT PRINTED: function 65 (slices_partialInsertionSortOrdered_int)

-- NOT PRINTED: function 66 (slices_partitionEqualOrdered_int)

-- NOT PRINTED: function 67 (slices_partitionOrdered_int)

-- NOT PRINTED: function 52 (slices_pdqsortOrdered_int)

-- NOT PRINTED: function 39 (slices_Sort_int_int)

/-! ### impl_StickSort: function 12, by hand -/
def impl_StickSort.f (k : Nat) (l : List Int) : Option (List Int × Bool) := (impl_isRuler.f k l).bind fun t => if t = true then ((slices_Clone_int_int.f k l).bind fun c => some (c.mergeSort (fun x y => decide (x ≤ y)), true)) else some ([], false)
theorem impl_StickSort.mono : ∀ a0 k, LeO (impl_StickSort.f k a0) (impl_StickSort.f (k + 1) a0) := fun _ k => LeO.bind (impl_isRuler.mono _ _) (fun _ => LeO.ite (LeO.bind (slices_Clone_int_int.mono _ _) (fun _ => LeO.refl _)) (LeO.refl _))
set_option maxHeartbeats 4000000 in
set_option maxRecDepth 100000 in
theorem impl_StickSort.calls (k : Nat) (A0 : Option Addr) (c0 : Nat) (l0 : List Int) (r1 : List Int) (r2 : Bool) (w : World) (hr0 : Kd.C (Kd.int .i64) w A0 l0.length l0) (hc0 : l0.length ≤ c0) (h : impl_StickSort.f k l0 = some (r1, r2)) :
    Calls Try.prog 12 #[.slice A0 l0.length c0] w fun e w' => ∃ v0_ : Value, e = .returned (.tuple #[v0_, .bool r2]) ∧ Kd.R (Kd.int .i64) 3 w' w.heap.size (fun _ => True) v0_ r1 ∧ Below w.heap.size w w' := by
  have HR0 := Aside0.mk hr0
  have HC0 := Aside0.mk hc0
  clear hr0 hc0
  obtain ⟨t, h1, h⟩ := Option.bind_eq_some_iff.mp h
  have A1 := Aside0.mk h1
  clear h1
  by_cases c3 : t = true
  · subst c3
    rw [if_pos rfl] at h
    obtain ⟨c, h2, h⟩ := Option.bind_eq_some_iff.mp h
    simp only [Option.some.injEq, Prod.mk.injEq] at h
    obtain ⟨rfl, rfl⟩ := h
    have hpos : 0 < c.length ∧ c.length < 1000 := by
      unfold slices_Clone_int_int.f at h2
      split at h2
      · split at h2
        · rw [← Option.some.inj h2]
          simp
          omega
        · exact absurd h2 (by simp)
      · exact absurd h2 (by simp)
    have HP := Aside0.mk hpos
    have A2 := Aside0.mk h2
    clear h2 hpos
    go_enter Try.func12, Try.ntmps12
    go_wp2_with (first
      | (go_at_call 37; refine (impl_isRuler.calls k _ _ l0 true _ (by repeat (first | exact HR0.out | (with_reducible refine Kd.C_drewN ?_ _) | (with_reducible refine Kd.C_drew ?_))) HC0.out A1.out).mono ?_; rintro e w1 ⟨rfl, ⟨⟨n, rfl⟩⟩⟩)
      | (go_at_call 38; refine (slices_Clone_int_int.calls k _ _ l0 c _ (by repeat (first | exact HR0.out | (with_reducible refine Kd.C_drewN ?_ _) | (with_reducible refine Kd.C_drew ?_))) HC0.out A2.out).mono ?_; rintro e w2 ⟨v2, rfl, hr2, hb2⟩; obtain ⟨g, cap, rfl, hg1, hg2, cells, hcell⟩ := Kd.R_form hr2 HP.out.1; have HR2 := Aside0.mk hr2; have HB2 := Aside0.mk (show Below w.heap.size w w2 from ⟨hb2.os, hb2.tape, hb2.output, hb2.size, hb2.block⟩); have HG := Aside0.mk (And.intro (show w.heap.size ≤ g from hg1) hg2); clear hr2 hb2 hg1 hg2 hcell))
    rcases (Kd.own_of_R HR2.out).2 with ⟨q0, _⟩ | ⟨g1, cap1, cur, q1, q2, q3, q4, q5, q6, q7⟩
    · cases q0
    cases q1
    have hsl : (c.mergeSort (fun x y => decide (x ≤ y))).length = c.length := List.length_mergeSort _
    have hH : Go.Sort.Holds (Value.int .i64) w2 g 0 c.toArray := holds_of_blockI q3 (by rw [Nat.mul_one] at q7; exact q7)
    refine (Go.Proofs.Ythgphegpkjngaaa.Shelf.Try.slices_Sort_int g 0 cap c w2 hH HG.out.2 (by have := HP.out.2; omega)).mono ?_
    rintro e w3 ⟨rfl, n, os, rfl⟩
    have HO := Aside0.mk (show Kd.R (Kd.int .i64) 3 (Go.Sort.grow (Go.Sort.putRow (Value.int .i64) (Go.Sort.ahead w2 n) g 0 (c.mergeSort (fun x y => decide (x ≤ y))).toArray) os) w.heap.size (fun _ => True) (.slice (some ⟨g, 0, none⟩) c.length cap) (c.mergeSort (fun x y => decide (x ≤ y))) from Kd.R_of_own (by rw [hsl]; exact ownsRow_sortedI hsl HG.out.1 q3 q4 q5 q6) (fun _ _ => trivial))
    have HB3 := Aside0.mk (show Below w.heap.size w (Go.Sort.grow (Go.Sort.putRow (Value.int .i64) (Go.Sort.ahead w2 n) g 0 (c.mergeSort (fun x y => decide (x ≤ y))).toArray) os) from Below.grown HB2.out (grownBy_sortedI _) HB2.out.size (fun k hk => by cases hk; exact HG.out.1))
    obtain ⟨w3, hw3⟩ : ∃ W : World, W = Go.Sort.grow (Go.Sort.putRow (Value.int .i64) (Go.Sort.ahead w2 n) g 0 (c.mergeSort (fun x y => decide (x ≤ y))).toArray) os := ⟨_, rfl⟩
    rw [← hw3] at HO HB3 ⊢
    clear hw3 q3 hH
    go_wp2
    go_ret2
    exact ⟨_, rfl, HO.out, HB3.out⟩
  · replace c3 := Bool.eq_false_iff.mpr c3
    subst c3
    rw [if_neg (by decide)] at h
    simp only [Option.some.injEq, Prod.mk.injEq] at h
    obtain ⟨rfl, rfl⟩ := h
    go_enter Try.func12, Try.ntmps12
    go_wp2_with (first
      | (go_at_call 37; refine (impl_isRuler.calls k _ _ l0 false _ (by repeat (first | exact HR0.out | (with_reducible refine Kd.C_drewN ?_ _) | (with_reducible refine Kd.C_drew ?_))) HC0.out A1.out).mono ?_; rintro e w1 ⟨rfl, ⟨⟨n, rfl⟩⟩⟩))
    go_ret2
    exact ⟨_, rfl, Kd.R_nil _ _ _ _ _, pw_below_drewN (Below.refl _ _) _⟩

/-! ### impl_StickPut: function 17 -/
def impl_StickPut.f (k : Nat) (l0 : List Int) (a1 : Int) : Option (List Int × Bool) := (impl_StickIn.f k l0).bind fun t294 => (if t294 = true then ((slices_Clone_int_int.f k l0).bind fun t295 => (if t295.length < 17592186044416 then ((impl_StickSort.f k (t295 ++ [a1])).bind fun bt301 => (some (bt301.1, bt301.2))) else (none))) else (some (([] : List Int), false)))
theorem impl_StickPut.mono : ∀ a0 a1 k, LeO (impl_StickPut.f k a0 a1) (impl_StickPut.f (k + 1) a0 a1) := by
  intro a0 a1 k
  unfold impl_StickPut.f
  repeat' first
      | (with_reducible exact impl_StickIn.mono _ _)
      | (with_reducible exact impl_StickSort.mono _ _)
      | (with_reducible exact slices_Clone_int_int.mono _ _)
      | (with_reducible exact LeO.refl _)
      | (with_reducible exact LeO.none _)
      | (with_reducible refine LeO.ite ?_ ?_)
      | (with_reducible refine LeO.bind ?_ (fun _ => ?_))
      | exact impl_StickIn.mono _ _
      | exact impl_StickSort.mono _ _
      | exact slices_Clone_int_int.mono _ _
      | exact LeO.none _
      | refine LeO.ite ?_ ?_
      | refine LeO.bind ?_ (fun _ => ?_)
set_option maxHeartbeats 8000000 in
set_option maxRecDepth 100000 in
theorem impl_StickPut.calls (k : Nat) (A0 : Option Addr) (c0 : Nat) (l0 : List Int) (a1 : Int) (r1 : List Int) (r2 : Bool) (w : World) (hr0 : Kd.C (Kd.int .i64) w A0 l0.length l0) (hc0 : l0.length ≤ c0) (h : impl_StickPut.f k l0 a1 = some (r1, r2)) :
    Calls Try.prog 17 #[.slice A0 l0.length c0, .int .i64 a1] w fun e w' => ∃ v0_ : Value, e = .returned (.tuple #[v0_, .bool r2]) ∧ Kd.R (Kd.int .i64) 3 w' w.heap.size (fun _ => True) v0_ r1 ∧ Below w.heap.size w w' := by
  have HR0 := Aside0.mk hr0
  have HC0 := Aside0.mk hc0
  clear hr0 hc0
  have HB := Aside0.mk (Below.refl w.heap.size w)
  have H : ((impl_StickIn.f k l0).bind fun t294 => (if t294 = true then ((slices_Clone_int_int.f k l0).bind fun t295 => (if t295.length < 17592186044416 then ((impl_StickSort.f k (t295 ++ [a1])).bind fun bt301 => (some (bt301.1, bt301.2))) else (none))) else (some (([] : List Int), false)))) = some (r1, r2) := h
  clear h
  replace H := Option.bind_eq_some_iff.mp H
  obtain ⟨t294, A30, H⟩ := H
  replace H : (if t294 = true then ((slices_Clone_int_int.f k l0).bind fun t295 => (if t295.length < 17592186044416 then ((impl_StickSort.f k (t295 ++ [a1])).bind fun bt301 => (some (bt301.1, bt301.2))) else (none))) else (some (([] : List Int), false))) = some (r1, r2) := H
  have A3 := Aside0.mk A30
  clear A30
  by_cases c4 : t294 = true
  · subst c4
    have H1 : ((slices_Clone_int_int.f k l0).bind fun t295 => (if t295.length < 17592186044416 then ((impl_StickSort.f k (t295 ++ [a1])).bind fun bt301 => (some (bt301.1, bt301.2))) else (none))) = some (r1, r2) := by rw [if_pos rfl] at H; exact H
    clear H
    have H := H1
    clear H1
    replace H := Option.bind_eq_some_iff.mp H
    obtain ⟨t295, A50, H⟩ := H
    replace H : (if t295.length < 17592186044416 then ((impl_StickSort.f k (t295 ++ [a1])).bind fun bt301 => (some (bt301.1, bt301.2))) else (none)) = some (r1, r2) := H
    have A5 := Aside0.mk A50
    clear A50
    by_cases c6 : t295.length < 17592186044416
    · rw [if_pos c6] at H
      have LMc6 := Aside0.mk c6
      clear c6
      obtain ⟨y298, hy298⟩ : ∃ y_ : List Int, y_ = (t295 ++ [a1]) := ⟨_, rfl⟩
      replace H : ((impl_StickSort.f k y298).bind fun bt301 => (some (bt301.1, bt301.2))) = some (r1, r2) := by first | (rw [hy298]; with_reducible exact H) | (have H2_ := (Option.bind_some _ _).symm.trans H; rw [hy298]; with_reducible exact H2_) | (have H2_ := (Option.bind_some _ _).symm.trans H; with_reducible exact H2_) | with_reducible exact H | (rw [hy298]; exact H) | exact H
      have Ny298 := Aside0.mk hy298
      clear hy298
      replace H := Option.bind_eq_some_iff.mp H
      obtain ⟨⟨t301, t302⟩, A70, H⟩ := H
      replace H : (some (t301, t302)) = some (r1, r2) := H
      have A7 := Aside0.mk A70
      clear A70
      simp only [Option.some.injEq, Prod.mk.injEq] at H
      obtain ⟨rfl, rfl⟩ := H
      go_enter Try.func17, Try.ntmps17
      go_wp2_with (first | ((with_reducible refine gate_callee (f := 23) rfl ?_); refine goesL_ (some 7) rfl rfl Try.func23 (by kernel_rfl) rfl #[.slice A0 l0.length c0] rfl (by (try simp only [List.map_toArray, List.map_cons, List.map_nil]); first | done | rfl | (simp only [List.length_drop, List.length_take]; rfl)) ?_; (with_reducible refine (impl_StickIn.calls k _ _ l0 true _ ?side1 ?side2 A3.out).mono ?_); (case side1 => repeat (first | exact HR0.out | (with_reducible refine Kd.C_alloc ?_ _) | (with_reducible refine Kd.C_drewN ?_ _) | (with_reducible refine Kd.C_drew ?_))); (case side2 => exact HC0.out); rintro e w' ⟨rfl, ⟨nd, rfl⟩⟩; refine ⟨_, rfl, ?_⟩) | ((with_reducible refine gate_callee (f := 38) rfl ?_); refine goesL_ (some 10) rfl rfl Try.func38 (by kernel_rfl) rfl #[.slice A0 l0.length c0] rfl (by (try simp only [List.map_toArray, List.map_cons, List.map_nil]); first | done | rfl | (simp only [List.length_drop, List.length_take]; rfl)) ?_; (with_reducible refine (slices_Clone_int_int.calls k _ _ l0 t295 _ ?side1 ?side2 A5.out).mono ?_); (case side1 => repeat (first | exact HR0.out | (with_reducible refine Kd.C_alloc ?_ _) | (with_reducible refine Kd.C_drewN ?_ _) | (with_reducible refine Kd.C_drew ?_))); (case side2 => exact HC0.out); rintro e w8 ⟨v296, rfl, ho0, hb⟩; refine ⟨_, rfl, ?_⟩; have n0_ := Aside0.mk (Kd.R_lower ho0 (below_size (by repeat (first | (with_reducible first | exact HB.out | apply below_alloc | apply pw_below_drewN | apply below_drew1) | exact HB.out)))); have n1_ := Aside0.mk (below_step (by repeat (first | (with_reducible first | exact HB.out | apply below_alloc | apply pw_below_drewN | apply below_drew1) | exact HB.out)) hb); clear HB; have HO297 := n0_; have HB := n1_; clear n0_ n1_; (try clear hb); (try clear hb2); (try clear hk); (try clear hi); (try clear ho0)) | ((with_reducible refine gate_builtin (b := .append) (xs := #[.tmp 10, .tmp 12]) rfl ?_); at_builtin; refine Kd.R_append (Kd.int .i64) (w0 := w) w.heap.size rfl (.tmp 10) (.tmp 12) 23 3 (.int .i64 0) 8 rfl Try.underlying23 info3 rfl (by decide) (by omega) v296 t295 a1 [.int .i64 a1] (fun _ => True) (fun _ => False) rfl rfl ?aP (fun _ hk => hk.elim) ?aF ?aO ?aB ?aS ?aL ?_; (case aP => exact rfl); (case aB => exact (by repeat (first | (with_reducible first | exact HB.out | apply below_alloc | apply pw_below_drewN | apply below_drew1) | exact HB.out))); (case aF => exact (fun _ _ => trivial)); (case aO => exact (by (with_reducible repeat (first | apply Kd.R_alloc | apply Kd.R_drewN | apply Kd.R_drew)); exact HO297.out)); (case aS => exact (below_size (by repeat (first | (with_reducible first | exact HB.out | apply below_alloc | apply pw_below_drewN | apply below_drew1) | exact HB.out)))); (case aL => have := LMc6.out; omega); intro v299 w9 ho hb hg hat; rw [← Ny298.out] at ho; have n0_ := Aside0.mk (hb); have n1_ := Aside0.mk (ho); clear HB; clear HO297; have HB := n0_; have HO300 := n1_; clear n0_ n1_; clear ho hb hg hat; obtain ⟨Ao10, co10, eo10⟩ := Kd.R_slice HO300.out; subst eo10) | ((with_reducible refine gate_callee (f := 12) rfl ?_); refine goesL_ (some 14) rfl rfl Try.func12 (by kernel_rfl) rfl #[.slice Ao10 y298.length co10] rfl (by (try simp only [List.map_toArray, List.map_cons, List.map_nil]); first | done | rfl | (simp only [List.length_drop, List.length_take]; rfl)) ?_; (with_reducible refine (impl_StickSort.calls k _ _ y298 t301 t302 _ ?side1 ?side2 A7.out).mono ?_); (case side1 => repeat (first | exact (Kd.R_reads' HO300.out).2.2 | (with_reducible refine Kd.C_alloc ?_ _) | (with_reducible refine Kd.C_drewN ?_ _) | (with_reducible refine Kd.C_drew ?_))); (case side2 => exact (Kd.R_reads' HO300.out).2.1); rintro e w11 ⟨v303, rfl, ho0, hb⟩; refine ⟨_, rfl, ?_⟩; have n0_ := Aside0.mk (Kd.R_elder' (by (with_reducible repeat (first | apply Kd.R_alloc | apply Kd.R_drewN | apply Kd.R_drew)); exact HO300.out) (Kd.R_base ho0) hb); have n1_ := Aside0.mk (Kd.R_lower (Kd.R_new' ho0 (Kd.R_lt (by (with_reducible repeat (first | apply Kd.R_alloc | apply Kd.R_drewN | apply Kd.R_drew)); exact HO300.out))) (below_size (by repeat (first | (with_reducible first | exact HB.out | apply below_alloc | apply pw_below_drewN | apply below_drew1) | exact HB.out)))); have n2_ := Aside0.mk (below_step (by repeat (first | (with_reducible first | exact HB.out | apply below_alloc | apply pw_below_drewN | apply below_drew1) | exact HB.out)) hb); clear HO300; clear HB; have HO300 := n0_; have HO304 := n1_; have HB := n2_; clear n0_ n1_ n2_; (try clear hb); (try clear hb2); (try clear hk); (try clear hi); (try clear ho0)))
      go_ret2
      exact ⟨_, by first | rfl | (simp [errW_none, errW_some] <;> rfl) | (simp [*, errW_none, errW_some] <;> rfl) | (exfalso; simp_all; done), by (with_reducible repeat (first | apply Kd.R_alloc | apply Kd.R_drewN | apply Kd.R_drew)); exact Kd.R_mono HO304.out (fun _ hk => trivial), by repeat (first | (with_reducible first | exact HB.out | apply below_alloc | apply pw_below_drewN | apply below_drew1) | exact HB.out)⟩
    · rw [if_neg c6] at H
      exact absurd H (by simp)
  · replace c4 := Bool.eq_false_iff.mpr c4
    subst c4
    have H1 : (some (([] : List Int), false)) = some (r1, r2) := by rw [if_neg (show ¬ (false = true) by decide)] at H; exact H
    clear H
    have H := H1
    clear H1
    simp only [Option.some.injEq, Prod.mk.injEq] at H
    obtain ⟨rfl, rfl⟩ := H
    go_enter Try.func17, Try.ntmps17
    go_wp2_with (first | ((with_reducible refine gate_callee (f := 23) rfl ?_); refine goesL_ (some 7) rfl rfl Try.func23 (by kernel_rfl) rfl #[.slice A0 l0.length c0] rfl (by (try simp only [List.map_toArray, List.map_cons, List.map_nil]); first | done | rfl | (simp only [List.length_drop, List.length_take]; rfl)) ?_; (with_reducible refine (impl_StickIn.calls k _ _ l0 false _ ?side1 ?side2 A3.out).mono ?_); (case side1 => repeat (first | exact HR0.out | (with_reducible refine Kd.C_alloc ?_ _) | (with_reducible refine Kd.C_drewN ?_ _) | (with_reducible refine Kd.C_drew ?_))); (case side2 => exact HC0.out); rintro e w' ⟨rfl, ⟨nd, rfl⟩⟩; refine ⟨_, rfl, ?_⟩))
    go_ret2
    exact ⟨_, by first | rfl | (simp [errW_none, errW_some] <;> rfl) | (simp [*, errW_none, errW_some] <;> rfl) | (exfalso; simp_all; done), by first | exact Kd.R_nil _ _ _ _ _ | exact Kd.N_nil _ _ _ _ _ | exact Kd.V_nil _ _ _ _ _ | exact Kd.Q_nil _ _ _ _ _ | exact Kd.S_nil _ _ _ _ _, by repeat (first | (with_reducible first | exact HB.out | apply below_alloc | apply pw_below_drewN | apply below_drew1) | exact HB.out)⟩

/-! ### impl_threes: function 55, by hand -/
def impl_threes.lz {S : Type} (step : S → Int → Int → Int → Option S) : Nat → List Int → Int → Int → Int → S → Option S
  | 0, _, _, _, _, _ => none
  | k + 1, a, x, y, z, s => if z < (a.length : Int) then ((step s x y z).bind fun s' => impl_threes.lz step k a x y (wrap64 (z + 1)) s') else some s
def impl_threes.ly {S : Type} (step : S → Int → Int → Int → Option S) : Nat → List Int → Int → Int → S → Option S
  | 0, _, _, _, _ => none
  | k + 1, a, x, y, s => if y < (a.length : Int) then ((impl_threes.lz step k a x y (wrap64 (y + 1)) s).bind fun s' => impl_threes.ly step k a x (wrap64 (y + 1)) s') else some s
def impl_threes.lx {S : Type} (step : S → Int → Int → Int → Option S) : Nat → List Int → Int → S → Option S
  | 0, _, _, _ => none
  | k + 1, a, x, s => if x < (a.length : Int) then ((impl_threes.ly step k a x (wrap64 (x + 1)) s).bind fun s' => impl_threes.lx step k a (wrap64 (x + 1)) s') else some s
def impl_threes.f {S : Type} (step : S → Int → Int → Int → Option S) (k : Nat) (a : List Int) (s : S) : Option S := impl_threes.lx step k a 0 s
theorem impl_threes.mono_z {S : Type} {st st' : S → Int → Int → Int → Option S} (hst : ∀ s x y z, LeO (st s x y z) (st' s x y z)) : ∀ k a x y z s, LeO (impl_threes.lz st k a x y z s) (impl_threes.lz st' (k + 1) a x y z s)
  | 0, _, _, _, _, _ => fun r h => by simp [impl_threes.lz] at h
  | k + 1, a, x, y, z, s => by
    have ih := impl_threes.mono_z hst k
    rw [impl_threes.lz, impl_threes.lz]
    exact LeO.ite (LeO.bind (hst _ _ _ _) (fun _ => ih _ _ _ _ _)) (LeO.refl _)
theorem impl_threes.mono_y {S : Type} {st st' : S → Int → Int → Int → Option S} (hst : ∀ s x y z, LeO (st s x y z) (st' s x y z)) : ∀ k a x y s, LeO (impl_threes.ly st k a x y s) (impl_threes.ly st' (k + 1) a x y s)
  | 0, _, _, _, _ => fun r h => by simp [impl_threes.ly] at h
  | k + 1, a, x, y, s => by
    have ih := impl_threes.mono_y hst k
    rw [impl_threes.ly, impl_threes.ly]
    exact LeO.ite (LeO.bind (impl_threes.mono_z hst _ _ _ _ _ _) (fun _ => ih _ _ _ _)) (LeO.refl _)
theorem impl_threes.mono_x {S : Type} {st st' : S → Int → Int → Int → Option S} (hst : ∀ s x y z, LeO (st s x y z) (st' s x y z)) : ∀ k a x s, LeO (impl_threes.lx st k a x s) (impl_threes.lx st' (k + 1) a x s)
  | 0, _, _, _ => fun r h => by simp [impl_threes.lx] at h
  | k + 1, a, x, s => by
    have ih := impl_threes.mono_x hst k
    rw [impl_threes.lx, impl_threes.lx]
    exact LeO.ite (LeO.bind (impl_threes.mono_y hst _ _ _ _ _) (fun _ => ih _ _ _)) (LeO.refl _)
theorem impl_threes.mono {S : Type} {st st' : S → Int → Int → Int → Option S} (hst : ∀ s x y z, LeO (st s x y z) (st' s x y z)) (a : List Int) (s : S) (k : Nat) : LeO (impl_threes.f st k a s) (impl_threes.f st' (k + 1) a s) := impl_threes.mono_x hst k a 0 s
set_option maxHeartbeats 8000000 in
set_option maxRecDepth 100000 in
/-- All three places, told one behind the other to a function value. -/
theorem impl_threes.calls {S : Type} (step : S → Int → Int → Int → Option S) (K : Nat) (fn : Func) (hK : Try.prog.funcs[K]? = some fn) (hKn : (fn.name == "runtime.NumGoroutine") = false) (hKb : fn.body.isSome = true) (caps : Array Value) (R : S → World → Prop)
    (k : Nat) (A0 : Option Addr) (c0 : Nat) (a : List Int) (s0 s1 : S) (w : World)
    (htell : ∀ s s' x y z w1, R s w1 → step s x y z = some s' → Calls Try.prog K (#[.int .i64 x, .int .i64 y, .int .i64 z] ++ caps) w1 fun e w2 => e = .returned (.tuple #[]) ∧ R s' w2)
    (hs : R s0 w) (h : impl_threes.f step k a s0 = some s1) :
    Calls Try.prog 55 #[.slice A0 a.length c0, .func (.func K) #[] caps] w fun e w' => e = .returned (.tuple #[]) ∧ R s1 w' := by
  have H : impl_threes.lx step k a 0 s0 = some s1 := h
  have HH := Aside0.mk H
  have HT := Aside0.mk htell
  have HKn := Aside0.mk (And.intro hK (And.intro hKn hKb))
  have HS := Aside0.mk hs
  clear h H htell hK hKn hKb hs
  go_enter Try.func55, Try.ntmps55
  go_wp2
  go_loopg [9] k (fun kq v9 w' => ∃ (x : Int) (s : S), v9 = .int .i64 x ∧ Aside0 (impl_threes.lx step kq a x s = some s1) ∧ Aside0 (kq ≤ k) ∧ Aside0 (R s w'))
  case atStart => exact ⟨0, s0, rfl, HH, ⟨Nat.le_refl _⟩, HS⟩
  case round =>
    clear HH HS
    obtain ⟨x, s, rfl, HA, HK, HR⟩ := hrel
    cases gk with
    | zero => exact absurd HA.out (by simp [impl_threes.lx])
    | succ k1 =>
      have H := HA.out
      clear HA
      simp only [impl_threes.lx] at H
      by_cases c1 : x < (a.length : Int)
      · rw [if_pos c1] at H
        have c1b : decide (x < (a.length : Int)) = true := decide_eq_true c1
        obtain ⟨s2, h2, H⟩ := Option.bind_eq_some_iff.mp H
        have H2 := Aside0.mk h2
        have H' := Aside0.mk H
        clear c1 h2 H
        go_wp2
        go_loopg [5] k1 (fun kq v5 w' => ∃ (y : Int) (s : S), v5 = .int .i64 y ∧ Aside0 (impl_threes.ly step kq a x y s = some s2) ∧ Aside0 (kq ≤ k1) ∧ Aside0 (R s w'))
        case atStart => exact ⟨wrap64 (x + 1), s, (by first | rfl | (simp; done) | (simp [*]; done)), H2, ⟨Nat.le_refl _⟩, HR⟩
        case round =>
          clear H2 HR
          obtain ⟨y, s, rfl, HA, HK2, HR⟩ := hrel
          cases gk with
          | zero => exact absurd HA.out (by simp [impl_threes.ly])
          | succ k2 =>
            have H := HA.out
            clear HA
            simp only [impl_threes.ly] at H
            by_cases c2 : y < (a.length : Int)
            · rw [if_pos c2] at H
              have c2b : decide (y < (a.length : Int)) = true := decide_eq_true c2
              obtain ⟨s3, h3, H⟩ := Option.bind_eq_some_iff.mp H
              have H3 := Aside0.mk h3
              have H2' := Aside0.mk H
              clear c2 h3 H
              go_wp2
              go_loopg [6] k2 (fun kq v6 w' => ∃ (z : Int) (s : S), v6 = .int .i64 z ∧ Aside0 (impl_threes.lz step kq a x y z s = some s3) ∧ Aside0 (kq ≤ k2) ∧ Aside0 (R s w'))
              case atStart => exact ⟨wrap64 (y + 1), s, (by first | rfl | (simp; done) | (simp [*]; done)), H3, ⟨Nat.le_refl _⟩, HR⟩
              case round =>
                clear H3 HR
                obtain ⟨z, s, rfl, HA, HK3, HR⟩ := hrel
                cases gk with
                | zero => exact absurd HA.out (by simp [impl_threes.lz])
                | succ k3 =>
                  have H := HA.out
                  clear HA
                  simp only [impl_threes.lz] at H
                  by_cases c3 : z < (a.length : Int)
                  · rw [if_pos c3] at H
                    have c3b : decide (z < (a.length : Int)) = true := decide_eq_true c3
                    obtain ⟨s4, h4, H⟩ := Option.bind_eq_some_iff.mp H
                    have H4 := Aside0.mk h4
                    have H3' := Aside0.mk H
                    clear c3 h4 H
                    go_wp2
                    rw [enters_ HKn.out.1 HKn.out.2.1 HKn.out.2.2, Oper.upon_enter]
                    refine (HT.out s s4 x y z wr HR.out H4.out).mono ?_
                    rintro e w2 ⟨rfl, hs2⟩
                    have HR2 := Aside0.mk hs2
                    clear hs2
                    go_wp2
                    go_roundg k3
                    case measure => omega
                    case rel => exact ⟨wrap64 (z + 1), s4, (by first | rfl | (simp; done) | (simp [*]; done)), H3', ⟨by have := HK3.out; omega⟩, HR2⟩
                  · rw [if_neg c3] at H
                    have c3b : decide (z < (a.length : Int)) = false := decide_eq_false c3
                    obtain rfl := Option.some.inj H
                    clear c3 H
                    go_wp2
                    go_roundg k2
                    case measure => omega
                    case rel => exact ⟨wrap64 (y + 1), s, (by first | rfl | (simp; done) | (simp [*]; done)), H2', ⟨by have := HK2.out; omega⟩, HR⟩
            · rw [if_neg c2] at H
              have c2b : decide (y < (a.length : Int)) = false := decide_eq_false c2
              obtain rfl := Option.some.inj H
              clear c2 H
              go_wp2
              go_roundg k1
              case measure => omega
              case rel => exact ⟨wrap64 (x + 1), s, (by first | rfl | (simp; done) | (simp [*]; done)), H', ⟨by have := HK.out; omega⟩, HR⟩
      · rw [if_neg c1] at H
        have c1b : decide (x < (a.length : Int)) = false := decide_eq_false c1
        obtain rfl := Option.some.inj H
        clear c1 H
        go_wp2
        go_end0
        exact ⟨rfl, HR.out⟩

-- NOT PRINTED: function 56 (impl_StickMany_1)

/-! ### impl_StickMany: function 45, by hand -/
def impl_StickMany.step (l : List Int) (s : Int) (x y z : Int) : Option Int := if 0 ≤ x then (if x < (l.length : Int) then (if 0 ≤ y then (if y < (l.length : Int) then (if 0 ≤ z then (if z < (l.length : Int) then (if rd l z < wrap64 (rd l x + rd l y) then some (wrap64 (s + 1)) else some s) else none) else none) else none) else none) else none) else none
def impl_StickMany.f (k : Nat) (l : List Int) : Option (Int × Bool) :=
  (impl_StickIn.f k l).bind fun t => if t = true then ((impl_threes.f (impl_StickMany.step l) k l 0).bind fun r => some (r, true)) else some (0, false)
theorem impl_StickMany.mono : ∀ a0 k, LeO (impl_StickMany.f k a0) (impl_StickMany.f (k + 1) a0) := by
  intro a0 k
  unfold impl_StickMany.f
  exact LeO.bind (impl_StickIn.mono _ _) (fun _ => LeO.ite (LeO.bind (impl_threes.mono (fun _ _ _ _ => LeO.refl _) _ _ _) (fun _ => LeO.refl _)) (LeO.refl _))
theorem impl_StickMany.heap_new {W : World} {o : Obj} {g : Nat} (h : g = W.heap.size) : (W.alloc o).heap[g]? = some o := by
  subst h
  exact heap_alloc_new W o
/-- What holds between the calls of the function that is told: the number's own cell, the argument's box. -/
def impl_StickMany.R (A0 : Option Addr) (n0 c0 ga gm : Nat) (w0 : World) (s : Int) (w1 : World) : Prop := w1.heap[gm]? = some (.cells #[.int .i64 s] 3 (0, 0)) ∧ w1.heap[ga]? = some (.cells #[.slice A0 n0 c0] 23 (0, 0)) ∧ Below w0.heap.size w0 w1
set_option maxHeartbeats 4000000 in
set_option maxRecDepth 100000 in
theorem impl_StickMany.tell (l0 : List Int) (A0 : Option Addr) (c0 ga gm : Nat) (w0 : World) (s s' x y z : Int) (w1 : World) (hr0 : ∀ w', Below w0.heap.size w0 w' → Kd.C (Kd.int .i64) w' A0 l0.length l0) (hg : w0.heap.size ≤ gm) (hR : impl_StickMany.R A0 l0.length c0 ga gm w0 s w1) (h : impl_StickMany.step l0 s x y z = some s') :
    Calls Try.prog 56 (#[.int .i64 x, .int .i64 y, .int .i64 z] ++ #[.pointer (some ⟨ga, 0, none⟩), .pointer (some ⟨gm, 0, none⟩)]) w1 fun e w2 => e = .returned (.tuple #[]) ∧ impl_StickMany.R A0 l0.length c0 ga gm w0 s' w2 := by
  show Calls Try.prog 56 #[.int .i64 x, .int .i64 y, .int .i64 z, .pointer (some ⟨ga, 0, none⟩), .pointer (some ⟨gm, 0, none⟩)] w1 _
  obtain ⟨hR1, hR3, hR2⟩ := hR
  have hc := hr0 w1 hR2
  have HR1 := Aside0.mk hR1
  have HR2 := Aside0.mk hR2
  have HR3 := Aside0.mk hR3
  have HG := Aside0.mk hg
  have hne : ga ≠ gm := blk_ne hR3 hR1 (by decide)
  have HN := Aside0.mk hne
  have c0_ : _ = some _ := blk_cell hR1 0
  have c1_ : _ = some _ := blk_cell hR3 0
  have f0_ := blk_frozen hR1 0
  unfold impl_StickMany.step at h
  by_cases x0 : 0 ≤ x
  · rw [if_pos x0] at h
    by_cases x1 : x < (l0.length : Int)
    · rw [if_pos x1] at h
      by_cases y0 : 0 ≤ y
      · rw [if_pos y0] at h
        by_cases y1 : y < (l0.length : Int)
        · rw [if_pos y1] at h
          by_cases z0 : 0 ≤ z
          · rw [if_pos z0] at h
            by_cases z1 : z < (l0.length : Int)
            · rw [if_pos z1] at h
              obtain ⟨ad, e1, hx⟩ := Kd.at_int hc x x0 x1
              subst e1
              obtain ⟨ad2, e2, hy⟩ := Kd.at_int hc y y0 y1
              obtain rfl : ad = ad2 := by injection e2
              obtain ⟨ad3, e3, hz⟩ := Kd.at_int hc z z0 z1
              obtain rfl : ad = ad3 := by injection e3
              have px0 := eq_true x0
              have px1 := eq_true x1
              have py0 := eq_true y0
              have py1 := eq_true y1
              have pz0 := eq_true z0
              have pz1 := eq_true z1
              obtain ⟨p, hp⟩ : ∃ p : Int, wrap64 (rd l0 x + rd l0 y) = p := ⟨_, rfl⟩
              rw [hp] at h
              have hpw : IntKind.i64.wrap (rd l0 x + rd l0 y) = p := (i64_w _).trans hp
              clear x0 x1 y0 y1 z0 z1 e2 e3 hc hr0 hR1 hR2 hR3 hg hne
              by_cases hc : rd l0 z < p
              · rw [if_pos hc] at h
                have hcb : decide (rd l0 z < p) = true := decide_eq_true hc
                obtain ⟨q, hq⟩ : ∃ q : Int, wrap64 (s + 1) = q := ⟨_, rfl⟩
                rw [hq] at h
                have hqw : IntKind.i64.wrap (s + 1) = q := (i64_w _).trans hq
                obtain rfl := Option.some.inj h
                clear h hc hp hq
                go_enter Try.func56, Try.ntmps56
                go_wp2
                go_quiet (fail)
                go_wp2
                go_end0
                exact ⟨rfl, blk_put (blk_drewN HR1.out _) 0 _ rfl, blk_far (blk_drewN HR3.out _) HN.out _, (pw_below_drewN HR2.out _).setCell HG.out _⟩
              · rw [if_neg hc] at h
                have hcb : decide (rd l0 z < p) = false := decide_eq_false hc
                obtain rfl := Option.some.inj h
                clear h hc hp
                go_enter Try.func56, Try.ntmps56
                go_wp2
                go_quiet (fail)
                go_wp2
                go_end0
                exact ⟨rfl, blk_drewN HR1.out _, blk_drewN HR3.out _, pw_below_drewN HR2.out _⟩
            · rw [if_neg z1] at h
              exact absurd h (by simp)
          · rw [if_neg z0] at h
            exact absurd h (by simp)
        · rw [if_neg y1] at h
          exact absurd h (by simp)
      · rw [if_neg y0] at h
        exact absurd h (by simp)
    · rw [if_neg x1] at h
      exact absurd h (by simp)
  · rw [if_neg x0] at h
    exact absurd h (by simp)
set_option maxHeartbeats 4000000 in
set_option maxRecDepth 100000 in
theorem impl_StickMany.calls (k : Nat) (A0 : Option Addr) (c0 : Nat) (l0 : List Int) (r1 : Int) (r2 : Bool) (w : World) (hr0 : Kd.C (Kd.int .i64) w A0 l0.length l0) (hc0 : l0.length ≤ c0) (h : impl_StickMany.f k l0 = some (r1, r2)) :
    Calls Try.prog 45 #[.slice A0 l0.length c0] w fun e w' => e = .returned (.tuple #[.int .i64 r1, .bool r2]) ∧ Below w.heap.size w w' := by
  have HR0 := Aside0.mk hr0
  have HC0 := Aside0.mk hc0
  clear hr0 hc0
  have HB := Aside0.mk (Below.refl w.heap.size w)
  obtain ⟨t, h1, h⟩ := Option.bind_eq_some_iff.mp h
  have A1 := Aside0.mk h1
  clear h1
  by_cases c3 : t = true
  · subst c3
    rw [if_pos rfl] at h
    obtain ⟨r, h3, h⟩ := Option.bind_eq_some_iff.mp h
    simp only [Option.some.injEq, Prod.mk.injEq] at h
    obtain ⟨rfl, rfl⟩ := h
    have A3 := Aside0.mk h3
    clear h3
    have hmf : ∀ (fn : Fn) (first cap : Array Value) (w : World), (Instr.makeFunc fn first cap).run Try.prog w = .ok (.func fn first cap) w := fun _ _ _ _ => rfl
    have ca : ∀ m, (((w.alloc (Obj.cells #[.slice A0 l0.length c0] 23)).drewN m).alloc (Obj.cells #[.int .i64 0] 3)).cell? ⟨w.heap.size + 1, 0, none⟩ = some (.int .i64 0) := fun m => blk_cell (impl_StickMany.heap_new (by simp)) 0
    have fa : ∀ m, (((w.alloc (Obj.cells #[.slice A0 l0.length c0] 23)).drewN m).alloc (Obj.cells #[.int .i64 0] 3)).frozen? ⟨w.heap.size + 1, 0, none⟩ = false := fun m => blk_frozen (impl_StickMany.heap_new (by simp)) 0
    have hb0 : ∀ m, Below w.heap.size w (((w.alloc (Obj.cells #[.slice A0 l0.length c0] 23)).drewN m).alloc (Obj.cells #[.int .i64 0] 3)) := fun m => below_alloc (pw_below_drewN (below_alloc (Below.refl w.heap.size w) _) m) _
    have HBM := Aside0.mk hb0
    clear hb0
    go_enter Try.func45, Try.ntmps45
    go_wp2_with (first
      | (go_at_call 23; refine (impl_StickIn.calls k _ _ l0 true _ (by repeat (first | exact HR0.out | (with_reducible refine Kd.C_alloc ?_ _) | (with_reducible refine Kd.C_drewN ?_ _) | (with_reducible refine Kd.C_drew ?_))) HC0.out A1.out).mono ?_; rintro e w1 ⟨rfl, ⟨⟨n, rfl⟩⟩⟩)
      | (go_at_call 55; refine (impl_threes.calls (impl_StickMany.step l0) 56 _ Try.func56 (by kernel_rfl) rfl #[.pointer (some ⟨w.heap.size, 0, none⟩), .pointer (some ⟨w.heap.size + 1, 0, none⟩)] (impl_StickMany.R A0 l0.length c0 w.heap.size (w.heap.size + 1) w) k A0 c0 l0 0 r _ ?ht ?hs A3.out).mono ?_; (case ht => exact fun s s' x y z w1 h1 h2 => impl_StickMany.tell l0 A0 c0 _ _ w s s' x y z w1 (fun w' hb => Kd.C_below HR0.out hb) (by omega) h1 h2); (case hs => exact ⟨impl_StickMany.heap_new (by simp), blk_alloc (blk_drewN (heap_alloc_new w _) _) _, HBM.out _⟩); rintro e w2 ⟨rfl, hs⟩; have c2 := blk_cell hs.1 0; have HB2 := Aside0.mk hs.2.2; clear hs))
    go_ret2
    exact ⟨rfl, by repeat (first | exact HB2.out | apply pw_below_drewN)⟩
  · replace c3 := Bool.eq_false_iff.mpr c3
    subst c3
    rw [if_neg (by decide)] at h
    simp only [Option.some.injEq, Prod.mk.injEq] at h
    obtain ⟨rfl, rfl⟩ := h
    go_enter Try.func45, Try.ntmps45
    go_wp2_with (first
      | (go_at_call 23; refine (impl_StickIn.calls k _ _ l0 false _ (by repeat (first | exact HR0.out | (with_reducible refine Kd.C_alloc ?_ _) | (with_reducible refine Kd.C_drewN ?_ _) | (with_reducible refine Kd.C_drew ?_))) HC0.out A1.out).mono ?_; rintro e w1 ⟨rfl, ⟨⟨n, rfl⟩⟩⟩))
    go_ret2
    exact ⟨rfl, by repeat (first | (with_reducible first | exact HB.out | apply below_alloc | apply pw_below_drewN | apply below_drew1) | exact HB.out)⟩

/-! ### impl_StickFree: function 18 -/
def impl_StickFree.f (k : Nat) (l0 : List Int) : Option (Bool) := (impl_StickMany.f k l0).bind fun bt305 => (if bt305.2 = true then (some (bt305.1 == 0)) else (some false))
theorem impl_StickFree.mono : ∀ a0 k, LeO (impl_StickFree.f k a0) (impl_StickFree.f (k + 1) a0) := by
  intro a0 k
  unfold impl_StickFree.f
  repeat' first
      | (with_reducible exact impl_StickMany.mono _ _)
      | (with_reducible exact LeO.refl _)
      | (with_reducible exact LeO.none _)
      | (with_reducible refine LeO.ite ?_ ?_)
      | (with_reducible refine LeO.bind ?_ (fun _ => ?_))
      | exact impl_StickMany.mono _ _
      | exact LeO.none _
      | refine LeO.ite ?_ ?_
      | refine LeO.bind ?_ (fun _ => ?_)
set_option maxHeartbeats 8000000 in
set_option maxRecDepth 100000 in
theorem impl_StickFree.calls (k : Nat) (A0 : Option Addr) (c0 : Nat) (l0 : List Int) (r : Bool) (w : World) (hr0 : Kd.C (Kd.int .i64) w A0 l0.length l0) (hc0 : l0.length ≤ c0) (h : impl_StickFree.f k l0 = some r) :
    Calls Try.prog 18 #[.slice A0 l0.length c0] w fun e w' => e = .returned (.bool r) ∧ Below w.heap.size w w' := by
  have HR0 := Aside0.mk hr0
  have HC0 := Aside0.mk hc0
  clear hr0 hc0
  have HB := Aside0.mk (Below.refl w.heap.size w)
  have H : ((impl_StickMany.f k l0).bind fun bt305 => (if bt305.2 = true then (some (bt305.1 == 0)) else (some false))) = some r := h
  clear h
  replace H := Option.bind_eq_some_iff.mp H
  obtain ⟨⟨t305, t306⟩, A20, H⟩ := H
  replace H : (if t306 = true then (some (t305 == 0)) else (some false)) = some r := H
  have A2 := Aside0.mk A20
  clear A20
  by_cases c3 : t306 = true
  · subst c3
    have H1 : (some (t305 == 0)) = some r := by rw [if_pos rfl] at H; exact H
    clear H
    have H := H1
    clear H1
    obtain rfl := Option.some.inj H
    go_enter Try.func18, Try.ntmps18
    go_wp2_with (first | ((with_reducible refine gate_callee (f := 45) rfl ?_); refine goesL_ (some 7) rfl rfl Try.func45 (by kernel_rfl) rfl #[.slice A0 l0.length c0] rfl (by (try simp only [List.map_toArray, List.map_cons, List.map_nil]); first | done | rfl | (simp only [List.length_drop, List.length_take]; rfl)) ?_; (with_reducible refine (impl_StickMany.calls k _ _ l0 t305 true _ ?side1 ?side2 A2.out).mono ?_); (case side1 => repeat (first | exact HR0.out | (with_reducible refine Kd.C_alloc ?_ _) | (with_reducible refine Kd.C_drewN ?_ _) | (with_reducible refine Kd.C_drew ?_))); (case side2 => exact HC0.out); rintro e w4 ⟨rfl, hb⟩; refine ⟨_, rfl, ?_⟩; have n0_ := Aside0.mk (below_step (by repeat (first | (with_reducible first | exact HB.out | apply below_alloc | apply pw_below_drewN | apply below_drew1) | exact HB.out)) hb); clear HB; have HB := n0_; clear n0_; (try clear hb); (try clear hb2); (try clear hk); (try clear hi)))
    go_ret
    exact ⟨by first | rfl | (simp [errW_none, errW_some] <;> rfl) | (simp [*, errW_none, errW_some] <;> rfl) | (exfalso; simp_all; done), by repeat (first | (with_reducible first | exact HB.out | apply below_alloc | apply pw_below_drewN | apply below_drew1) | exact HB.out)⟩
  · replace c3 := Bool.eq_false_iff.mpr c3
    subst c3
    have H1 : (some false) = some r := by rw [if_neg (show ¬ (false = true) by decide)] at H; exact H
    clear H
    have H := H1
    clear H1
    obtain rfl := Option.some.inj H
    go_enter Try.func18, Try.ntmps18
    go_wp2_with (first | ((with_reducible refine gate_callee (f := 45) rfl ?_); refine goesL_ (some 7) rfl rfl Try.func45 (by kernel_rfl) rfl #[.slice A0 l0.length c0] rfl (by (try simp only [List.map_toArray, List.map_cons, List.map_nil]); first | done | rfl | (simp only [List.length_drop, List.length_take]; rfl)) ?_; (with_reducible refine (impl_StickMany.calls k _ _ l0 t305 false _ ?side1 ?side2 A2.out).mono ?_); (case side1 => repeat (first | exact HR0.out | (with_reducible refine Kd.C_alloc ?_ _) | (with_reducible refine Kd.C_drewN ?_ _) | (with_reducible refine Kd.C_drew ?_))); (case side2 => exact HC0.out); rintro e w5 ⟨rfl, hb⟩; refine ⟨_, rfl, ?_⟩; have n0_ := Aside0.mk (below_step (by repeat (first | (with_reducible first | exact HB.out | apply below_alloc | apply pw_below_drewN | apply below_drew1) | exact HB.out)) hb); clear HB; have HB := n0_; clear n0_; (try clear hb); (try clear hb2); (try clear hk); (try clear hi)))
    go_ret
    exact ⟨by first | rfl | (simp [errW_none, errW_some] <;> rfl) | (simp [*, errW_none, errW_some] <;> rfl) | (exfalso; simp_all; done), by repeat (first | (with_reducible first | exact HB.out | apply below_alloc | apply pw_below_drewN | apply below_drew1) | exact HB.out)⟩

/-! ### laws_FnPartMost: function 5 -/
def laws_FnPartMost.j0 : Nat → List Int → Int → Bool → Int → Bool → Bool → Option (Bool)
  | 0, _, _, _, _, _, _ => none
  | k + 1, x3, x4, x5, x6, x7, x38 => if x38 = true then (if (x5 == x7) = true then (some (x4 == x6)) else (some false)) else ((impl_StickPut.f k x3 1).bind fun bt314 => ((impl_PartMost.f k bt314.1).bind fun bt318 => (if (wrap64 (3 * x4)) ≤ (x3.length : Int) then ((impl_StickFree.f k x3).bind fun t320 => (if ((x4 == 0) == t320) = true then (if bt314.2 = true then (if bt318.2 = true then (some (decide (bt318.1 ≥ x4))) else (some false)) else (some true)) else (some false))) else (some false))))
def laws_FnPartMost.f (k : Nat) (l0 : List Int) : Option (Bool) := if (l0.length : Int) > 1048576 then (some true) else ((spec_DrawPartMost.f k l0).bind fun t307 => ((impl_PartMost.f k t307).bind fun bt310 => ((spec_PartMost.f k t307).bind fun bt312 => (if (bt310.2 != bt312.2) = true then (laws_FnPartMost.j0 k t307 bt310.1 bt310.2 bt312.1 bt312.2 true) else (if bt310.1 = bt312.1 then (laws_FnPartMost.j0 k t307 bt310.1 bt310.2 bt312.1 bt312.2 (!bt310.2)) else (laws_FnPartMost.j0 k t307 bt310.1 bt310.2 bt312.1 bt312.2 true))))))
theorem laws_FnPartMost.mono_l : ∀ k, (∀ y0 y1 y2 y3 y4 y5, LeO (laws_FnPartMost.j0 k y0 y1 y2 y3 y4 y5) (laws_FnPartMost.j0 (k + 1) y0 y1 y2 y3 y4 y5))
  | 0 => fun _ _ _ _ _ _ r h => by simp [laws_FnPartMost.j0] at h
  | k + 1 => by
    have ih0 := laws_FnPartMost.mono_l k
    · intro y0 y1 y2 y3 y4 y5
      unfold laws_FnPartMost.j0
      repeat' first
      | (with_reducible exact ih0 _ _ _ _ _ _)
      | (with_reducible exact impl_PartMost.mono _ _)
      | (with_reducible exact impl_StickFree.mono _ _)
      | (with_reducible exact impl_StickPut.mono _ _ _)
      | (with_reducible exact spec_DrawPartMost.mono _ _)
      | (with_reducible exact spec_PartMost.mono _ _)
      | (with_reducible exact LeO.refl _)
      | (with_reducible exact LeO.none _)
      | (with_reducible refine LeO.ite ?_ ?_)
      | (with_reducible refine LeO.bind ?_ (fun _ => ?_))
      | exact ih0 _ _ _ _ _ _
      | exact impl_PartMost.mono _ _
      | exact impl_StickFree.mono _ _
      | exact impl_StickPut.mono _ _ _
      | exact spec_DrawPartMost.mono _ _
      | exact spec_PartMost.mono _ _
      | exact LeO.none _
      | refine LeO.ite ?_ ?_
      | refine LeO.bind ?_ (fun _ => ?_)
theorem laws_FnPartMost.mono : ∀ a0 k, LeO (laws_FnPartMost.f k a0) (laws_FnPartMost.f (k + 1) a0) := by
  intro a0 k
  have ih0 := laws_FnPartMost.mono_l k
  unfold laws_FnPartMost.f
  repeat' first
      | (with_reducible exact ih0 _ _ _ _ _ _)
      | (with_reducible exact impl_PartMost.mono _ _)
      | (with_reducible exact impl_StickFree.mono _ _)
      | (with_reducible exact impl_StickPut.mono _ _ _)
      | (with_reducible exact spec_DrawPartMost.mono _ _)
      | (with_reducible exact spec_PartMost.mono _ _)
      | (with_reducible exact LeO.refl _)
      | (with_reducible exact LeO.none _)
      | (with_reducible refine LeO.ite ?_ ?_)
      | (with_reducible refine LeO.bind ?_ (fun _ => ?_))
      | exact ih0 _ _ _ _ _ _
      | exact impl_PartMost.mono _ _
      | exact impl_StickFree.mono _ _
      | exact impl_StickPut.mono _ _ _
      | exact spec_DrawPartMost.mono _ _
      | exact spec_PartMost.mono _ _
      | exact LeO.none _
      | refine LeO.ite ?_ ?_
      | refine LeO.bind ?_ (fun _ => ?_)
set_option maxHeartbeats 8000000 in
set_option maxRecDepth 100000 in
theorem laws_FnPartMost.calls (k : Nat) (A0 : Option Addr) (c0 : Nat) (l0 : List Int) (r : Bool) (w : World) (hr0 : Kd.C (Kd.int .u8) w A0 l0.length l0) (hc0 : l0.length ≤ c0) (h : laws_FnPartMost.f k l0 = some r) :
    Calls Try.prog 5 #[.slice A0 l0.length c0] w fun e w' => e = .returned (.bool r) ∧ Below w.heap.size w w' := by
  have HR0 := Aside0.mk hr0
  have HC0 := Aside0.mk hc0
  clear hr0 hc0
  have HB := Aside0.mk (Below.refl w.heap.size w)
  have H : (if (l0.length : Int) > 1048576 then (some true) else ((spec_DrawPartMost.f k l0).bind fun t307 => ((impl_PartMost.f k t307).bind fun bt310 => ((spec_PartMost.f k t307).bind fun bt312 => (if (bt310.2 != bt312.2) = true then (laws_FnPartMost.j0 k t307 bt310.1 bt310.2 bt312.1 bt312.2 true) else (if bt310.1 = bt312.1 then (laws_FnPartMost.j0 k t307 bt310.1 bt310.2 bt312.1 bt312.2 (!bt310.2)) else (laws_FnPartMost.j0 k t307 bt310.1 bt310.2 bt312.1 bt312.2 true))))))) = some r := h
  clear h
  by_cases c2 : (l0.length : Int) > 1048576
  · rw [if_pos c2] at H
    have c2b0 : decide (1048576 < (l0.length : Int)) = true := decide_eq_true c2
    have c2b1 : decide (1048576 < l0.length) = true := decide_eq_true (by omega)
    clear c2
    obtain rfl := Option.some.inj H
    go_enter Try.func5, Try.ntmps5
    go_wp2
    go_ret
    exact ⟨by first | rfl | (simp [errW_none, errW_some] <;> rfl) | (simp [*, errW_none, errW_some] <;> rfl) | (exfalso; simp_all; done), by repeat (first | (with_reducible first | exact HB.out | apply below_alloc | apply pw_below_drewN | apply below_drew1) | exact HB.out)⟩
  · rw [if_neg c2] at H
    have c2b0 : decide (1048576 < (l0.length : Int)) = false := decide_eq_false c2
    have c2b1 : decide (1048576 < l0.length) = false := decide_eq_false (by omega)
    clear c2
    replace H := Option.bind_eq_some_iff.mp H
    obtain ⟨t307, A30, H⟩ := H
    replace H : ((impl_PartMost.f k t307).bind fun bt310 => ((spec_PartMost.f k t307).bind fun bt312 => (if (bt310.2 != bt312.2) = true then (laws_FnPartMost.j0 k t307 bt310.1 bt310.2 bt312.1 bt312.2 true) else (if bt310.1 = bt312.1 then (laws_FnPartMost.j0 k t307 bt310.1 bt310.2 bt312.1 bt312.2 (!bt310.2)) else (laws_FnPartMost.j0 k t307 bt310.1 bt310.2 bt312.1 bt312.2 true))))) = some r := H
    have A3 := Aside0.mk A30
    clear A30
    replace H := Option.bind_eq_some_iff.mp H
    obtain ⟨⟨t310, t311⟩, A40, H⟩ := H
    replace H : ((spec_PartMost.f k t307).bind fun bt312 => (if (t311 != bt312.2) = true then (laws_FnPartMost.j0 k t307 t310 t311 bt312.1 bt312.2 true) else (if t310 = bt312.1 then (laws_FnPartMost.j0 k t307 t310 t311 bt312.1 bt312.2 (!t311)) else (laws_FnPartMost.j0 k t307 t310 t311 bt312.1 bt312.2 true)))) = some r := H
    have A4 := Aside0.mk A40
    clear A40
    replace H := Option.bind_eq_some_iff.mp H
    obtain ⟨⟨t312, t313⟩, A50, H⟩ := H
    replace H : (if (t311 != t313) = true then (laws_FnPartMost.j0 k t307 t310 t311 t312 t313 true) else (if t310 = t312 then (laws_FnPartMost.j0 k t307 t310 t311 t312 t313 (!t311)) else (laws_FnPartMost.j0 k t307 t310 t311 t312 t313 true))) = some r := H
    have A5 := Aside0.mk A50
    clear A50
    have HC6 := Aside0.mk H
    clear H
    go_enter Try.func5, Try.ntmps5
    go_upto_region 6 with (first | ((with_reducible refine gate_callee (f := 15) rfl ?_); refine goesL_ (some 16) rfl rfl Try.func15 (by kernel_rfl) rfl #[.slice A0 l0.length c0] rfl (by (try simp only [List.map_toArray, List.map_cons, List.map_nil]); first | done | rfl | (simp only [List.length_drop, List.length_take]; rfl)) ?_; (with_reducible refine (spec_DrawPartMost.calls k _ _ l0 t307 _ ?side1 ?side2 A3.out).mono ?_); (case side1 => repeat (first | exact HR0.out | (with_reducible refine Kd.C_alloc ?_ _) | (with_reducible refine Kd.C_drewN ?_ _) | (with_reducible refine Kd.C_drew ?_))); (case side2 => exact HC0.out); rintro e w7 ⟨v308, rfl, ho0, hb⟩; refine ⟨_, rfl, ?_⟩; have n0_ := Aside0.mk (Kd.R_lower ho0 (below_size (by repeat (first | (with_reducible first | exact HB.out | apply below_alloc | apply pw_below_drewN | apply below_drew1) | exact HB.out)))); have n1_ := Aside0.mk (below_step (by repeat (first | (with_reducible first | exact HB.out | apply below_alloc | apply pw_below_drewN | apply below_drew1) | exact HB.out)) hb); clear HB; have HO309 := n0_; have HB := n1_; clear n0_ n1_; (try clear hb); (try clear hb2); (try clear hk); (try clear hi); (try clear ho0); obtain ⟨Ao8, co8, eo8⟩ := Kd.R_slice HO309.out; subst eo8) | ((with_reducible refine gate_callee (f := 9) rfl ?_); refine goesL_ (some 19) rfl rfl Try.func9 (by kernel_rfl) rfl #[.slice Ao8 t307.length co8] rfl (by (try simp only [List.map_toArray, List.map_cons, List.map_nil]); first | done | rfl | (simp only [List.length_drop, List.length_take]; rfl)) ?_; (with_reducible refine (impl_PartMost.calls k _ _ t307 t310 t311 _ ?side1 ?side2 A4.out).mono ?_); (case side1 => repeat (first | exact (Kd.R_reads' HO309.out).2.2 | (with_reducible refine Kd.C_alloc ?_ _) | (with_reducible refine Kd.C_drewN ?_ _) | (with_reducible refine Kd.C_drew ?_))); (case side2 => exact (Kd.R_reads' HO309.out).2.1); rintro e w9 ⟨rfl, hb⟩; refine ⟨_, rfl, ?_⟩; have n0_ := Aside0.mk (Kd.R_below (by (with_reducible repeat (first | apply Kd.R_alloc | apply Kd.R_drewN | apply Kd.R_drew)); exact HO309.out) hb); have n1_ := Aside0.mk (below_step (by repeat (first | (with_reducible first | exact HB.out | apply below_alloc | apply pw_below_drewN | apply below_drew1) | exact HB.out)) hb); clear HO309; clear HB; have HO309 := n0_; have HB := n1_; clear n0_ n1_; (try clear hb); (try clear hb2); (try clear hk); (try clear hi)) | ((with_reducible refine gate_callee (f := 16) rfl ?_); refine goesL_ (some 24) rfl rfl Try.func16 (by kernel_rfl) rfl #[.slice Ao8 t307.length co8] rfl (by (try simp only [List.map_toArray, List.map_cons, List.map_nil]); first | done | rfl | (simp only [List.length_drop, List.length_take]; rfl)) ?_; (with_reducible refine (spec_PartMost.calls k _ _ t307 t312 t313 _ ?side1 ?side2 A5.out).mono ?_); (case side1 => repeat (first | exact (Kd.R_reads' HO309.out).2.2 | (with_reducible refine Kd.C_alloc ?_ _) | (with_reducible refine Kd.C_drewN ?_ _) | (with_reducible refine Kd.C_drew ?_))); (case side2 => exact (Kd.R_reads' HO309.out).2.1); rintro e w10 ⟨rfl, hb⟩; refine ⟨_, rfl, ?_⟩; have n0_ := Aside0.mk (Kd.R_below (by (with_reducible repeat (first | apply Kd.R_alloc | apply Kd.R_drewN | apply Kd.R_drew)); exact HO309.out) hb); have n1_ := Aside0.mk (below_step (by repeat (first | (with_reducible first | exact HB.out | apply below_alloc | apply pw_below_drewN | apply below_drew1) | exact HB.out)) hb); clear HO309; clear HB; have HO309 := n0_; have HB := n1_; clear n0_ n1_; (try clear hb); (try clear hb2); (try clear hk); (try clear hi)))
    (try simp only [Act.put, List.setIfInBounds_toArray, List.set_cons_zero, List.set_cons_succ])
    go_cut [38] (fun v38 wc => ∃ (kq : Nat) (x38_5 : Bool), v38 = .bool x38_5 ∧ Aside0 (laws_FnPartMost.j0 kq t307 t310 t311 t312 t313 x38_5 = some r) ∧ Aside0 (kq ≤ k) ∧ Aside0 (Kd.R (Kd.int .i64) 3 wc w.heap.size (fun _ => True) (.slice Ao8 t307.length co8) t307) ∧ Aside0 (Below w.heap.size w wc))
    case first =>
      have H := HC6.out
      clear HC6
      by_cases c11 : (t311 != t313) = true
      · rw [if_pos c11] at H
        have c11b0 : (t311 != t313) = true := c11
        (try (have c11b1 : decide (t311 = t313) = false := by simpa using c11))
        (try (have c11b2 : (t311 == t313) = false := by simpa using c11))
        (try (have c11b3 : ¬ (t311 = t313) := by simpa using c11))
        clear c11
        (first | rw [c11b0] | (simp only [i64_w, i32_w]; rw [c11b0]) | skip)
        have H' := Aside0.mk H
        clear H
        go_wp2
        go_meet
        case rel => exact ⟨_, (true), (by first | rfl | (simp; done) | (simp [*]; done)), H', ⟨by first | omega | exact Nat.le_refl _⟩, ⟨by (with_reducible repeat (first | apply Kd.R_alloc | apply Kd.R_drewN | apply Kd.R_drew)); exact HO309.out⟩, ⟨by repeat (first | (with_reducible first | exact HB.out | apply below_alloc | apply pw_below_drewN | apply below_drew1) | exact HB.out)⟩⟩
      · rw [if_neg c11] at H
        have c11b0 : (t311 != t313) = false := by simpa using c11
        (try (have c11b1 : decide (t311 = t313) = true := by simpa using c11))
        (try (have c11b2 : (t311 == t313) = true := by simpa using c11))
        clear c11
        (first | rw [c11b0] | (simp only [i64_w, i32_w]; rw [c11b0]) | skip)
        by_cases c12 : t310 = t312
        · rw [if_pos c12] at H
          have c12b0 : (t310 == t312) = true := beq_iff_eq.mpr c12
          have c12b1 : (t310 != t312) = false := bne_eq_false_iff_eq.mpr c12
          clear c12
          have H' := Aside0.mk H
          clear H
          go_wp2
          go_meet
          case rel => exact ⟨_, (!t311), (by first | rfl | (simp; done) | (simp [*]; done)), H', ⟨by first | omega | exact Nat.le_refl _⟩, ⟨by (with_reducible repeat (first | apply Kd.R_alloc | apply Kd.R_drewN | apply Kd.R_drew)); exact HO309.out⟩, ⟨by repeat (first | (with_reducible first | exact HB.out | apply below_alloc | apply pw_below_drewN | apply below_drew1) | exact HB.out)⟩⟩
        · rw [if_neg c12] at H
          have c12b0 : (t310 == t312) = false := beq_eq_false_iff_ne.mpr c12
          have c12b1 : (t310 != t312) = true := bne_iff_ne.mpr c12
          have H' := Aside0.mk H
          clear H
          go_wp2
          go_meet
          case rel => exact ⟨_, (true), (by first | rfl | (simp; done) | (simp [*]; done)), H', ⟨by first | omega | exact Nat.le_refl _⟩, ⟨by (with_reducible repeat (first | apply Kd.R_alloc | apply Kd.R_drewN | apply Kd.R_drew)); exact HO309.out⟩, ⟨by repeat (first | (with_reducible first | exact HB.out | apply below_alloc | apply pw_below_drewN | apply below_drew1) | exact HB.out)⟩⟩
    case rest =>
      clear HC6
      try clear c1
      try clear c2
      try clear c2b0
      try clear c2b1
      try clear p2
      try clear c5
      try clear c9
      try clear c11
      try clear c11b0
      try clear c11b1
      try clear c11b2
      try clear c12
      try clear c12b0
      try clear c12b1
      obtain ⟨kq, x38_5, rfl, HA, HJ5, HO_3, HB⟩ := hcut
      cases kq with
      | zero => exact absurd HA.out (by simp [laws_FnPartMost.j0])
      | succ kj5 =>
        have H := HA.out
        clear HA
        simp only [laws_FnPartMost.j0] at H
        by_cases c13 : x38_5 = true
        · subst c13
          have H1 : (if (t311 == t313) = true then (some (t310 == t312)) else (some false)) = some r := by rw [if_pos rfl] at H; exact H
          clear H
          have H := H1
          clear H1
          by_cases c14 : (t311 == t313) = true
          · rw [if_pos c14] at H
            have c14b0 : (t311 == t313) = true := c14
            (try (have c14b1 : decide (t311 = t313) = true := by simpa using c14))
            (try (have c14b2 : (t311 == t313) = true := by simpa using c14))
            clear c14
            obtain rfl := Option.some.inj H
            go_wp2
            go_ret
            exact ⟨by first | rfl | (simp [errW_none, errW_some] <;> rfl) | (simp [*, errW_none, errW_some] <;> rfl) | (exfalso; simp_all; done), by repeat (first | (with_reducible first | exact HB.out | apply below_alloc | apply pw_below_drewN | apply below_drew1) | exact HB.out)⟩
          · rw [if_neg c14] at H
            have c14b0 : (t311 == t313) = false := by simpa using c14
            (try (have c14b1 : decide (t311 = t313) = false := by simpa using c14))
            (try (have c14b2 : (t311 == t313) = false := by simpa using c14))
            (try (have c14b3 : ¬ (t311 = t313) := by simpa using c14))
            clear c14
            obtain rfl := Option.some.inj H
            go_wp2
            go_ret
            exact ⟨by first | rfl | (simp [errW_none, errW_some] <;> rfl) | (simp [*, errW_none, errW_some] <;> rfl) | (exfalso; simp_all; done), by repeat (first | (with_reducible first | exact HB.out | apply below_alloc | apply pw_below_drewN | apply below_drew1) | exact HB.out)⟩
        · replace c13 := Bool.eq_false_iff.mpr c13
          subst c13
          have H1 : ((impl_StickPut.f kj5 t307 1).bind fun bt314 => ((impl_PartMost.f kj5 bt314.1).bind fun bt318 => (if (wrap64 (3 * t310)) ≤ (t307.length : Int) then ((impl_StickFree.f kj5 t307).bind fun t320 => (if ((t310 == 0) == t320) = true then (if bt314.2 = true then (if bt318.2 = true then (some (decide (bt318.1 ≥ t310))) else (some false)) else (some true)) else (some false))) else (some false)))) = some r := by rw [if_neg (show ¬ (false = true) by decide)] at H; exact H
          clear H
          have H := H1
          clear H1
          replace H := Option.bind_eq_some_iff.mp H
          obtain ⟨⟨t314, t315⟩, A150, H⟩ := H
          replace H : ((impl_PartMost.f kj5 t314).bind fun bt318 => (if (wrap64 (3 * t310)) ≤ (t307.length : Int) then ((impl_StickFree.f kj5 t307).bind fun t320 => (if ((t310 == 0) == t320) = true then (if t315 = true then (if bt318.2 = true then (some (decide (bt318.1 ≥ t310))) else (some false)) else (some true)) else (some false))) else (some false))) = some r := H
          have A15 := Aside0.mk A150
          clear A150
          replace H := Option.bind_eq_some_iff.mp H
          obtain ⟨⟨t318, t319⟩, A160, H⟩ := H
          replace H : (if (wrap64 (3 * t310)) ≤ (t307.length : Int) then ((impl_StickFree.f kj5 t307).bind fun t320 => (if ((t310 == 0) == t320) = true then (if t315 = true then (if t319 = true then (some (decide (t318 ≥ t310))) else (some false)) else (some true)) else (some false))) else (some false)) = some r := H
          have A16 := Aside0.mk A160
          clear A160
          by_cases c17 : (wrap64 (3 * t310)) ≤ (t307.length : Int)
          · rw [if_pos c17] at H
            have c17b0 : decide ((wrap64 (3 * t310)) ≤ (t307.length : Int)) = true := decide_eq_true c17
            clear c17
            replace H := Option.bind_eq_some_iff.mp H
            obtain ⟨t320, A180, H⟩ := H
            replace H : (if ((t310 == 0) == t320) = true then (if t315 = true then (if t319 = true then (some (decide (t318 ≥ t310))) else (some false)) else (some true)) else (some false)) = some r := H
            have A18 := Aside0.mk A180
            clear A180
            by_cases c19 : ((t310 == 0) == t320) = true
            · rw [if_pos c19] at H
              have c19b0 : ((t310 == 0) == t320) = true := c19
              (try (have c19b1 : decide ((t310 == 0) = t320) = true := by simpa using c19))
              (try (have c19b2 : ((t310 == 0) == t320) = true := by simpa using c19))
              clear c19
              by_cases c20 : t315 = true
              · subst c20
                have H1 : (if t319 = true then (some (decide (t318 ≥ t310))) else (some false)) = some r := by rw [if_pos rfl] at H; exact H
                clear H
                have H := H1
                clear H1
                by_cases c21 : t319 = true
                · subst c21
                  have H1 : (some (decide (t318 ≥ t310))) = some r := by rw [if_pos rfl] at H; exact H
                  clear H
                  have H := H1
                  clear H1
                  obtain rfl := Option.some.inj H
                  go_wp2_with (first | ((with_reducible refine gate_callee (f := 17) rfl ?_); refine goesL_ (some 49) rfl rfl Try.func17 (by kernel_rfl) rfl #[.slice Ao8 t307.length co8, .int .i64 1] rfl (by (try simp only [List.map_toArray, List.map_cons, List.map_nil]); first | done | rfl | (simp only [List.length_drop, List.length_take]; rfl)) ?_; (with_reducible refine (impl_StickPut.calls kj5 _ _ t307 1 t314 true _ ?side1 ?side2 A15.out).mono ?_); (case side1 => repeat (first | exact (Kd.R_reads' HO_3.out).2.2 | (with_reducible refine Kd.C_alloc ?_ _) | (with_reducible refine Kd.C_drewN ?_ _) | (with_reducible refine Kd.C_drew ?_))); (case side2 => exact (Kd.R_reads' HO_3.out).2.1); rintro e w22 ⟨v316, rfl, ho0, hb⟩; refine ⟨_, rfl, ?_⟩; have n0_ := Aside0.mk (Kd.R_elder' (by (with_reducible repeat (first | apply Kd.R_alloc | apply Kd.R_drewN | apply Kd.R_drew)); exact HO_3.out) (Kd.R_base ho0) hb); have n1_ := Aside0.mk (Kd.R_lower (Kd.R_new' ho0 (Kd.R_lt (by (with_reducible repeat (first | apply Kd.R_alloc | apply Kd.R_drewN | apply Kd.R_drew)); exact HO_3.out))) (below_size (by repeat (first | (with_reducible first | exact HB.out | apply below_alloc | apply pw_below_drewN | apply below_drew1) | exact HB.out)))); have n2_ := Aside0.mk (below_step (by repeat (first | (with_reducible first | exact HB.out | apply below_alloc | apply pw_below_drewN | apply below_drew1) | exact HB.out)) hb); clear HO_3; clear HB; have HO_3 := n0_; have HO317 := n1_; have HB := n2_; clear n0_ n1_ n2_; (try clear hb); (try clear hb2); (try clear hk); (try clear hi); (try clear ho0); obtain ⟨Ao23, co23, eo23⟩ := Kd.R_slice HO317.out; subst eo23) | ((with_reducible refine gate_callee (f := 9) rfl ?_); refine goesL_ (some 54) rfl rfl Try.func9 (by kernel_rfl) rfl #[.slice Ao23 t314.length co23] rfl (by (try simp only [List.map_toArray, List.map_cons, List.map_nil]); first | done | rfl | (simp only [List.length_drop, List.length_take]; rfl)) ?_; (with_reducible refine (impl_PartMost.calls kj5 _ _ t314 t318 true _ ?side1 ?side2 A16.out).mono ?_); (case side1 => repeat (first | exact (Kd.R_reads' HO317.out).2.2 | (with_reducible refine Kd.C_alloc ?_ _) | (with_reducible refine Kd.C_drewN ?_ _) | (with_reducible refine Kd.C_drew ?_))); (case side2 => exact (Kd.R_reads' HO317.out).2.1); rintro e w24 ⟨rfl, hb⟩; refine ⟨_, rfl, ?_⟩; have n0_ := Aside0.mk (Kd.R_below (by (with_reducible repeat (first | apply Kd.R_alloc | apply Kd.R_drewN | apply Kd.R_drew)); exact HO_3.out) hb); have n1_ := Aside0.mk (Kd.R_below (by (with_reducible repeat (first | apply Kd.R_alloc | apply Kd.R_drewN | apply Kd.R_drew)); exact HO317.out) hb); have n2_ := Aside0.mk (below_step (by repeat (first | (with_reducible first | exact HB.out | apply below_alloc | apply pw_below_drewN | apply below_drew1) | exact HB.out)) hb); clear HO_3; clear HO317; clear HB; have HO_3 := n0_; have HO317 := n1_; have HB := n2_; clear n0_ n1_ n2_; (try clear hb); (try clear hb2); (try clear hk); (try clear hi)) | (go_at_call 18; (with_reducible refine (impl_StickFree.calls kj5 _ _ t307 t320 _ ?side1 ?side2 A18.out).mono ?_); (case side1 => repeat (first | exact (Kd.R_reads' HO_3.out).2.2 | (with_reducible refine Kd.C_alloc ?_ _) | (with_reducible refine Kd.C_drewN ?_ _) | (with_reducible refine Kd.C_drew ?_))); (case side2 => exact (Kd.R_reads' HO_3.out).2.1); rintro e w25 ⟨rfl, hb⟩; have n0_ := Aside0.mk (Kd.R_below (by (with_reducible repeat (first | apply Kd.R_alloc | apply Kd.R_drewN | apply Kd.R_drew)); exact HO_3.out) hb); have n1_ := Aside0.mk (Kd.R_below (by (with_reducible repeat (first | apply Kd.R_alloc | apply Kd.R_drewN | apply Kd.R_drew)); exact HO317.out) hb); have n2_ := Aside0.mk (below_step (by repeat (first | (with_reducible first | exact HB.out | apply below_alloc | apply pw_below_drewN | apply below_drew1) | exact HB.out)) hb); clear HO_3; clear HO317; clear HB; have HO_3 := n0_; have HO317 := n1_; have HB := n2_; clear n0_ n1_ n2_; (try clear hb); (try clear hb2); (try clear hk); (try clear hi)))
                  go_ret
                  exact ⟨by first | rfl | (simp [errW_none, errW_some] <;> rfl) | (simp [*, errW_none, errW_some] <;> rfl) | (exfalso; simp_all; done), by repeat (first | (with_reducible first | exact HB.out | apply below_alloc | apply pw_below_drewN | apply below_drew1) | exact HB.out)⟩
                · replace c21 := Bool.eq_false_iff.mpr c21
                  subst c21
                  have H1 : (some false) = some r := by rw [if_neg (show ¬ (false = true) by decide)] at H; exact H
                  clear H
                  have H := H1
                  clear H1
                  obtain rfl := Option.some.inj H
                  go_wp2_with (first | ((with_reducible refine gate_callee (f := 17) rfl ?_); refine goesL_ (some 49) rfl rfl Try.func17 (by kernel_rfl) rfl #[.slice Ao8 t307.length co8, .int .i64 1] rfl (by (try simp only [List.map_toArray, List.map_cons, List.map_nil]); first | done | rfl | (simp only [List.length_drop, List.length_take]; rfl)) ?_; (with_reducible refine (impl_StickPut.calls kj5 _ _ t307 1 t314 true _ ?side1 ?side2 A15.out).mono ?_); (case side1 => repeat (first | exact (Kd.R_reads' HO_3.out).2.2 | (with_reducible refine Kd.C_alloc ?_ _) | (with_reducible refine Kd.C_drewN ?_ _) | (with_reducible refine Kd.C_drew ?_))); (case side2 => exact (Kd.R_reads' HO_3.out).2.1); rintro e w26 ⟨v316, rfl, ho0, hb⟩; refine ⟨_, rfl, ?_⟩; have n0_ := Aside0.mk (Kd.R_elder' (by (with_reducible repeat (first | apply Kd.R_alloc | apply Kd.R_drewN | apply Kd.R_drew)); exact HO_3.out) (Kd.R_base ho0) hb); have n1_ := Aside0.mk (Kd.R_lower (Kd.R_new' ho0 (Kd.R_lt (by (with_reducible repeat (first | apply Kd.R_alloc | apply Kd.R_drewN | apply Kd.R_drew)); exact HO_3.out))) (below_size (by repeat (first | (with_reducible first | exact HB.out | apply below_alloc | apply pw_below_drewN | apply below_drew1) | exact HB.out)))); have n2_ := Aside0.mk (below_step (by repeat (first | (with_reducible first | exact HB.out | apply below_alloc | apply pw_below_drewN | apply below_drew1) | exact HB.out)) hb); clear HO_3; clear HB; have HO_3 := n0_; have HO317 := n1_; have HB := n2_; clear n0_ n1_ n2_; (try clear hb); (try clear hb2); (try clear hk); (try clear hi); (try clear ho0); obtain ⟨Ao27, co27, eo27⟩ := Kd.R_slice HO317.out; subst eo27) | ((with_reducible refine gate_callee (f := 9) rfl ?_); refine goesL_ (some 54) rfl rfl Try.func9 (by kernel_rfl) rfl #[.slice Ao27 t314.length co27] rfl (by (try simp only [List.map_toArray, List.map_cons, List.map_nil]); first | done | rfl | (simp only [List.length_drop, List.length_take]; rfl)) ?_; (with_reducible refine (impl_PartMost.calls kj5 _ _ t314 t318 false _ ?side1 ?side2 A16.out).mono ?_); (case side1 => repeat (first | exact (Kd.R_reads' HO317.out).2.2 | (with_reducible refine Kd.C_alloc ?_ _) | (with_reducible refine Kd.C_drewN ?_ _) | (with_reducible refine Kd.C_drew ?_))); (case side2 => exact (Kd.R_reads' HO317.out).2.1); rintro e w28 ⟨rfl, hb⟩; refine ⟨_, rfl, ?_⟩; have n0_ := Aside0.mk (Kd.R_below (by (with_reducible repeat (first | apply Kd.R_alloc | apply Kd.R_drewN | apply Kd.R_drew)); exact HO_3.out) hb); have n1_ := Aside0.mk (Kd.R_below (by (with_reducible repeat (first | apply Kd.R_alloc | apply Kd.R_drewN | apply Kd.R_drew)); exact HO317.out) hb); have n2_ := Aside0.mk (below_step (by repeat (first | (with_reducible first | exact HB.out | apply below_alloc | apply pw_below_drewN | apply below_drew1) | exact HB.out)) hb); clear HO_3; clear HO317; clear HB; have HO_3 := n0_; have HO317 := n1_; have HB := n2_; clear n0_ n1_ n2_; (try clear hb); (try clear hb2); (try clear hk); (try clear hi)) | (go_at_call 18; (with_reducible refine (impl_StickFree.calls kj5 _ _ t307 t320 _ ?side1 ?side2 A18.out).mono ?_); (case side1 => repeat (first | exact (Kd.R_reads' HO_3.out).2.2 | (with_reducible refine Kd.C_alloc ?_ _) | (with_reducible refine Kd.C_drewN ?_ _) | (with_reducible refine Kd.C_drew ?_))); (case side2 => exact (Kd.R_reads' HO_3.out).2.1); rintro e w29 ⟨rfl, hb⟩; have n0_ := Aside0.mk (Kd.R_below (by (with_reducible repeat (first | apply Kd.R_alloc | apply Kd.R_drewN | apply Kd.R_drew)); exact HO_3.out) hb); have n1_ := Aside0.mk (Kd.R_below (by (with_reducible repeat (first | apply Kd.R_alloc | apply Kd.R_drewN | apply Kd.R_drew)); exact HO317.out) hb); have n2_ := Aside0.mk (below_step (by repeat (first | (with_reducible first | exact HB.out | apply below_alloc | apply pw_below_drewN | apply below_drew1) | exact HB.out)) hb); clear HO_3; clear HO317; clear HB; have HO_3 := n0_; have HO317 := n1_; have HB := n2_; clear n0_ n1_ n2_; (try clear hb); (try clear hb2); (try clear hk); (try clear hi)))
                  go_ret
                  exact ⟨by first | rfl | (simp [errW_none, errW_some] <;> rfl) | (simp [*, errW_none, errW_some] <;> rfl) | (exfalso; simp_all; done), by repeat (first | (with_reducible first | exact HB.out | apply below_alloc | apply pw_below_drewN | apply below_drew1) | exact HB.out)⟩
              · replace c20 := Bool.eq_false_iff.mpr c20
                subst c20
                have H1 : (some true) = some r := by rw [if_neg (show ¬ (false = true) by decide)] at H; exact H
                clear H
                have H := H1
                clear H1
                obtain rfl := Option.some.inj H
                go_wp2_with (first | ((with_reducible refine gate_callee (f := 17) rfl ?_); refine goesL_ (some 49) rfl rfl Try.func17 (by kernel_rfl) rfl #[.slice Ao8 t307.length co8, .int .i64 1] rfl (by (try simp only [List.map_toArray, List.map_cons, List.map_nil]); first | done | rfl | (simp only [List.length_drop, List.length_take]; rfl)) ?_; (with_reducible refine (impl_StickPut.calls kj5 _ _ t307 1 t314 false _ ?side1 ?side2 A15.out).mono ?_); (case side1 => repeat (first | exact (Kd.R_reads' HO_3.out).2.2 | (with_reducible refine Kd.C_alloc ?_ _) | (with_reducible refine Kd.C_drewN ?_ _) | (with_reducible refine Kd.C_drew ?_))); (case side2 => exact (Kd.R_reads' HO_3.out).2.1); rintro e w30 ⟨v316, rfl, ho0, hb⟩; refine ⟨_, rfl, ?_⟩; have n0_ := Aside0.mk (Kd.R_elder' (by (with_reducible repeat (first | apply Kd.R_alloc | apply Kd.R_drewN | apply Kd.R_drew)); exact HO_3.out) (Kd.R_base ho0) hb); have n1_ := Aside0.mk (Kd.R_lower (Kd.R_new' ho0 (Kd.R_lt (by (with_reducible repeat (first | apply Kd.R_alloc | apply Kd.R_drewN | apply Kd.R_drew)); exact HO_3.out))) (below_size (by repeat (first | (with_reducible first | exact HB.out | apply below_alloc | apply pw_below_drewN | apply below_drew1) | exact HB.out)))); have n2_ := Aside0.mk (below_step (by repeat (first | (with_reducible first | exact HB.out | apply below_alloc | apply pw_below_drewN | apply below_drew1) | exact HB.out)) hb); clear HO_3; clear HB; have HO_3 := n0_; have HO317 := n1_; have HB := n2_; clear n0_ n1_ n2_; (try clear hb); (try clear hb2); (try clear hk); (try clear hi); (try clear ho0); obtain ⟨Ao31, co31, eo31⟩ := Kd.R_slice HO317.out; subst eo31) | ((with_reducible refine gate_callee (f := 9) rfl ?_); refine goesL_ (some 54) rfl rfl Try.func9 (by kernel_rfl) rfl #[.slice Ao31 t314.length co31] rfl (by (try simp only [List.map_toArray, List.map_cons, List.map_nil]); first | done | rfl | (simp only [List.length_drop, List.length_take]; rfl)) ?_; (with_reducible refine (impl_PartMost.calls kj5 _ _ t314 t318 t319 _ ?side1 ?side2 A16.out).mono ?_); (case side1 => repeat (first | exact (Kd.R_reads' HO317.out).2.2 | (with_reducible refine Kd.C_alloc ?_ _) | (with_reducible refine Kd.C_drewN ?_ _) | (with_reducible refine Kd.C_drew ?_))); (case side2 => exact (Kd.R_reads' HO317.out).2.1); rintro e w32 ⟨rfl, hb⟩; refine ⟨_, rfl, ?_⟩; have n0_ := Aside0.mk (Kd.R_below (by (with_reducible repeat (first | apply Kd.R_alloc | apply Kd.R_drewN | apply Kd.R_drew)); exact HO_3.out) hb); have n1_ := Aside0.mk (Kd.R_below (by (with_reducible repeat (first | apply Kd.R_alloc | apply Kd.R_drewN | apply Kd.R_drew)); exact HO317.out) hb); have n2_ := Aside0.mk (below_step (by repeat (first | (with_reducible first | exact HB.out | apply below_alloc | apply pw_below_drewN | apply below_drew1) | exact HB.out)) hb); clear HO_3; clear HO317; clear HB; have HO_3 := n0_; have HO317 := n1_; have HB := n2_; clear n0_ n1_ n2_; (try clear hb); (try clear hb2); (try clear hk); (try clear hi)) | (go_at_call 18; (with_reducible refine (impl_StickFree.calls kj5 _ _ t307 t320 _ ?side1 ?side2 A18.out).mono ?_); (case side1 => repeat (first | exact (Kd.R_reads' HO_3.out).2.2 | (with_reducible refine Kd.C_alloc ?_ _) | (with_reducible refine Kd.C_drewN ?_ _) | (with_reducible refine Kd.C_drew ?_))); (case side2 => exact (Kd.R_reads' HO_3.out).2.1); rintro e w33 ⟨rfl, hb⟩; have n0_ := Aside0.mk (Kd.R_below (by (with_reducible repeat (first | apply Kd.R_alloc | apply Kd.R_drewN | apply Kd.R_drew)); exact HO_3.out) hb); have n1_ := Aside0.mk (Kd.R_below (by (with_reducible repeat (first | apply Kd.R_alloc | apply Kd.R_drewN | apply Kd.R_drew)); exact HO317.out) hb); have n2_ := Aside0.mk (below_step (by repeat (first | (with_reducible first | exact HB.out | apply below_alloc | apply pw_below_drewN | apply below_drew1) | exact HB.out)) hb); clear HO_3; clear HO317; clear HB; have HO_3 := n0_; have HO317 := n1_; have HB := n2_; clear n0_ n1_ n2_; (try clear hb); (try clear hb2); (try clear hk); (try clear hi)))
                go_ret
                exact ⟨by first | rfl | (simp [errW_none, errW_some] <;> rfl) | (simp [*, errW_none, errW_some] <;> rfl) | (exfalso; simp_all; done), by repeat (first | (with_reducible first | exact HB.out | apply below_alloc | apply pw_below_drewN | apply below_drew1) | exact HB.out)⟩
            · rw [if_neg c19] at H
              have c19b0 : ((t310 == 0) == t320) = false := by simpa using c19
              (try (have c19b1 : decide ((t310 == 0) = t320) = false := by simpa using c19))
              (try (have c19b2 : ((t310 == 0) == t320) = false := by simpa using c19))
              (try (have c19b3 : ¬ ((t310 == 0) = t320) := by simpa using c19))
              clear c19
              obtain rfl := Option.some.inj H
              go_wp2_with (first | ((with_reducible refine gate_callee (f := 17) rfl ?_); refine goesL_ (some 49) rfl rfl Try.func17 (by kernel_rfl) rfl #[.slice Ao8 t307.length co8, .int .i64 1] rfl (by (try simp only [List.map_toArray, List.map_cons, List.map_nil]); first | done | rfl | (simp only [List.length_drop, List.length_take]; rfl)) ?_; (with_reducible refine (impl_StickPut.calls kj5 _ _ t307 1 t314 t315 _ ?side1 ?side2 A15.out).mono ?_); (case side1 => repeat (first | exact (Kd.R_reads' HO_3.out).2.2 | (with_reducible refine Kd.C_alloc ?_ _) | (with_reducible refine Kd.C_drewN ?_ _) | (with_reducible refine Kd.C_drew ?_))); (case side2 => exact (Kd.R_reads' HO_3.out).2.1); rintro e w34 ⟨v316, rfl, ho0, hb⟩; refine ⟨_, rfl, ?_⟩; have n0_ := Aside0.mk (Kd.R_elder' (by (with_reducible repeat (first | apply Kd.R_alloc | apply Kd.R_drewN | apply Kd.R_drew)); exact HO_3.out) (Kd.R_base ho0) hb); have n1_ := Aside0.mk (Kd.R_lower (Kd.R_new' ho0 (Kd.R_lt (by (with_reducible repeat (first | apply Kd.R_alloc | apply Kd.R_drewN | apply Kd.R_drew)); exact HO_3.out))) (below_size (by repeat (first | (with_reducible first | exact HB.out | apply below_alloc | apply pw_below_drewN | apply below_drew1) | exact HB.out)))); have n2_ := Aside0.mk (below_step (by repeat (first | (with_reducible first | exact HB.out | apply below_alloc | apply pw_below_drewN | apply below_drew1) | exact HB.out)) hb); clear HO_3; clear HB; have HO_3 := n0_; have HO317 := n1_; have HB := n2_; clear n0_ n1_ n2_; (try clear hb); (try clear hb2); (try clear hk); (try clear hi); (try clear ho0); obtain ⟨Ao35, co35, eo35⟩ := Kd.R_slice HO317.out; subst eo35) | ((with_reducible refine gate_callee (f := 9) rfl ?_); refine goesL_ (some 54) rfl rfl Try.func9 (by kernel_rfl) rfl #[.slice Ao35 t314.length co35] rfl (by (try simp only [List.map_toArray, List.map_cons, List.map_nil]); first | done | rfl | (simp only [List.length_drop, List.length_take]; rfl)) ?_; (with_reducible refine (impl_PartMost.calls kj5 _ _ t314 t318 t319 _ ?side1 ?side2 A16.out).mono ?_); (case side1 => repeat (first | exact (Kd.R_reads' HO317.out).2.2 | (with_reducible refine Kd.C_alloc ?_ _) | (with_reducible refine Kd.C_drewN ?_ _) | (with_reducible refine Kd.C_drew ?_))); (case side2 => exact (Kd.R_reads' HO317.out).2.1); rintro e w36 ⟨rfl, hb⟩; refine ⟨_, rfl, ?_⟩; have n0_ := Aside0.mk (Kd.R_below (by (with_reducible repeat (first | apply Kd.R_alloc | apply Kd.R_drewN | apply Kd.R_drew)); exact HO_3.out) hb); have n1_ := Aside0.mk (Kd.R_below (by (with_reducible repeat (first | apply Kd.R_alloc | apply Kd.R_drewN | apply Kd.R_drew)); exact HO317.out) hb); have n2_ := Aside0.mk (below_step (by repeat (first | (with_reducible first | exact HB.out | apply below_alloc | apply pw_below_drewN | apply below_drew1) | exact HB.out)) hb); clear HO_3; clear HO317; clear HB; have HO_3 := n0_; have HO317 := n1_; have HB := n2_; clear n0_ n1_ n2_; (try clear hb); (try clear hb2); (try clear hk); (try clear hi)) | (go_at_call 18; (with_reducible refine (impl_StickFree.calls kj5 _ _ t307 t320 _ ?side1 ?side2 A18.out).mono ?_); (case side1 => repeat (first | exact (Kd.R_reads' HO_3.out).2.2 | (with_reducible refine Kd.C_alloc ?_ _) | (with_reducible refine Kd.C_drewN ?_ _) | (with_reducible refine Kd.C_drew ?_))); (case side2 => exact (Kd.R_reads' HO_3.out).2.1); rintro e w37 ⟨rfl, hb⟩; have n0_ := Aside0.mk (Kd.R_below (by (with_reducible repeat (first | apply Kd.R_alloc | apply Kd.R_drewN | apply Kd.R_drew)); exact HO_3.out) hb); have n1_ := Aside0.mk (Kd.R_below (by (with_reducible repeat (first | apply Kd.R_alloc | apply Kd.R_drewN | apply Kd.R_drew)); exact HO317.out) hb); have n2_ := Aside0.mk (below_step (by repeat (first | (with_reducible first | exact HB.out | apply below_alloc | apply pw_below_drewN | apply below_drew1) | exact HB.out)) hb); clear HO_3; clear HO317; clear HB; have HO_3 := n0_; have HO317 := n1_; have HB := n2_; clear n0_ n1_ n2_; (try clear hb); (try clear hb2); (try clear hk); (try clear hi)))
              go_ret
              exact ⟨by first | rfl | (simp [errW_none, errW_some] <;> rfl) | (simp [*, errW_none, errW_some] <;> rfl) | (exfalso; simp_all; done), by repeat (first | (with_reducible first | exact HB.out | apply below_alloc | apply pw_below_drewN | apply below_drew1) | exact HB.out)⟩
          · rw [if_neg c17] at H
            have c17b0 : decide ((wrap64 (3 * t310)) ≤ (t307.length : Int)) = false := decide_eq_false c17
            clear c17
            obtain rfl := Option.some.inj H
            go_wp2_with (first | ((with_reducible refine gate_callee (f := 17) rfl ?_); refine goesL_ (some 49) rfl rfl Try.func17 (by kernel_rfl) rfl #[.slice Ao8 t307.length co8, .int .i64 1] rfl (by (try simp only [List.map_toArray, List.map_cons, List.map_nil]); first | done | rfl | (simp only [List.length_drop, List.length_take]; rfl)) ?_; (with_reducible refine (impl_StickPut.calls kj5 _ _ t307 1 t314 t315 _ ?side1 ?side2 A15.out).mono ?_); (case side1 => repeat (first | exact (Kd.R_reads' HO_3.out).2.2 | (with_reducible refine Kd.C_alloc ?_ _) | (with_reducible refine Kd.C_drewN ?_ _) | (with_reducible refine Kd.C_drew ?_))); (case side2 => exact (Kd.R_reads' HO_3.out).2.1); rintro e w38 ⟨v316, rfl, ho0, hb⟩; refine ⟨_, rfl, ?_⟩; have n0_ := Aside0.mk (Kd.R_elder' (by (with_reducible repeat (first | apply Kd.R_alloc | apply Kd.R_drewN | apply Kd.R_drew)); exact HO_3.out) (Kd.R_base ho0) hb); have n1_ := Aside0.mk (Kd.R_lower (Kd.R_new' ho0 (Kd.R_lt (by (with_reducible repeat (first | apply Kd.R_alloc | apply Kd.R_drewN | apply Kd.R_drew)); exact HO_3.out))) (below_size (by repeat (first | (with_reducible first | exact HB.out | apply below_alloc | apply pw_below_drewN | apply below_drew1) | exact HB.out)))); have n2_ := Aside0.mk (below_step (by repeat (first | (with_reducible first | exact HB.out | apply below_alloc | apply pw_below_drewN | apply below_drew1) | exact HB.out)) hb); clear HO_3; clear HB; have HO_3 := n0_; have HO317 := n1_; have HB := n2_; clear n0_ n1_ n2_; (try clear hb); (try clear hb2); (try clear hk); (try clear hi); (try clear ho0); obtain ⟨Ao39, co39, eo39⟩ := Kd.R_slice HO317.out; subst eo39) | ((with_reducible refine gate_callee (f := 9) rfl ?_); refine goesL_ (some 54) rfl rfl Try.func9 (by kernel_rfl) rfl #[.slice Ao39 t314.length co39] rfl (by (try simp only [List.map_toArray, List.map_cons, List.map_nil]); first | done | rfl | (simp only [List.length_drop, List.length_take]; rfl)) ?_; (with_reducible refine (impl_PartMost.calls kj5 _ _ t314 t318 t319 _ ?side1 ?side2 A16.out).mono ?_); (case side1 => repeat (first | exact (Kd.R_reads' HO317.out).2.2 | (with_reducible refine Kd.C_alloc ?_ _) | (with_reducible refine Kd.C_drewN ?_ _) | (with_reducible refine Kd.C_drew ?_))); (case side2 => exact (Kd.R_reads' HO317.out).2.1); rintro e w40 ⟨rfl, hb⟩; refine ⟨_, rfl, ?_⟩; have n0_ := Aside0.mk (Kd.R_below (by (with_reducible repeat (first | apply Kd.R_alloc | apply Kd.R_drewN | apply Kd.R_drew)); exact HO_3.out) hb); have n1_ := Aside0.mk (Kd.R_below (by (with_reducible repeat (first | apply Kd.R_alloc | apply Kd.R_drewN | apply Kd.R_drew)); exact HO317.out) hb); have n2_ := Aside0.mk (below_step (by repeat (first | (with_reducible first | exact HB.out | apply below_alloc | apply pw_below_drewN | apply below_drew1) | exact HB.out)) hb); clear HO_3; clear HO317; clear HB; have HO_3 := n0_; have HO317 := n1_; have HB := n2_; clear n0_ n1_ n2_; (try clear hb); (try clear hb2); (try clear hk); (try clear hi)))
            go_ret
            exact ⟨by first | rfl | (simp [errW_none, errW_some] <;> rfl) | (simp [*, errW_none, errW_some] <;> rfl) | (exfalso; simp_all; done), by repeat (first | (with_reducible first | exact HB.out | apply below_alloc | apply pw_below_drewN | apply below_drew1) | exact HB.out)⟩

/-- THE ONE PURE STATEMENT of laws_FnPartMost: yours. -/
def laws_FnPartMost.Pure : Prop := ∀ (l0 : List Int), l0.length ≤ maxLen → l0.length * 1 ≤ 140737488351232 → (∀ x ∈ l0, (Lit.int .u8 x).wf = true) → ∃ k, laws_FnPartMost.f k l0 = some true
theorem laws_FnPartMost.walk (P : laws_FnPartMost.Pure) (a0 : Option Addr) (len0 cap0 : Nat) (z0 : List Int) (w : World) (w0 : (a0 = none ∧ len0 = 0 ∧ cap0 = 0 ∧ z0 = []) ∨ ∃ x, a0 = some x ∧ len0 ≤ cap0 ∧ cap0 ≤ maxLen ∧ z0.length = cap0 ∧ (∀ i, i < z0.length → w.cell? (x.add i) = some (.int .u8 (z0.getD i 0))) ∧ ∀ n ∈ z0, (Lit.int .u8 n).wf = true) (y0 : len0 * 1 ≤ 140737488351232) :
    Calls Try.prog 5 #[.slice a0 len0 cap0] w fun e w' => e = .returned (.bool true) ∧ Below w.heap.size w w' := by
  obtain ⟨l0, rfl, hr0, hm0, hw0, hc0⟩ := ReadsInt.ofRowC w0
  obtain ⟨k, h⟩ := P l0 hm0 y0 hw0
  refine (laws_FnPartMost.calls k _ _ l0 true w (Kd.C_of_reads (d := (0 : Int)) (h1 := fun _ => rfl) hr0) hc0 h).mono ?_
  rintro e w' ⟨rfl, hd⟩
  exact ⟨rfl, hd⟩

end Go.Proofs.Ythgphegpkjngaaa.PFnPartMost
