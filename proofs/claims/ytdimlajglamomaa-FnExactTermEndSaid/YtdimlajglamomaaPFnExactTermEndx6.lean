/- Written by a program of this claim out of the translation: plain Lean functions and their contracts; what is proved: each Go function of this text comes to what its Lean function says. -/
import Derived.Test.YtdimlajglamomaaPFnExactTermEndx0
import Derived.Test.YtdimlajglamomaaPFnExactTermEndx3
import Derived.Test.YtdimlajglamomaaPFnExactTermEndx4
import Derived.Test.YtdimlajglamomaaPFnExactTermEndx5
namespace Go.Proofs.Ytdimlajglamomaa.PFnExactTermEnd
open Go.RowKit Go.Proofs.YtdimlajglamomaaW.PrintWords Go.Proofs.YtdimlajglamomaaW.PrintLast Go.Proofs.YtdimlajglamomaaW.PrintMore
attribute [local go_sem] max2_int min2_int max_two min_two max_three min_three max_four min_four   -- for this text's walks alone
set_option linter.unusedVariables false
set_option linter.unusedSimpArgs false

/-! ### impl_walkable: function 24 -/
def impl_walkable.f (k : Nat) (a0 : ByteArray) : Option (Int × (List (S39)) × Bool) := (impl_readTerm.f a0).bind fun bt169 => (if bt169.2.2 = true then ((impl_term_length.f k bt169.1 bt169.2.1).bind fun t175 => (some (bt169.1, bt169.2.1, decide (t175 ≤ 200)))) else (some (bt169.1, bt169.2.1, false)))
theorem impl_walkable.mono : ∀ a0 k, LeO (impl_walkable.f k a0) (impl_walkable.f (k + 1) a0) := by
  intro a0 k
  unfold impl_walkable.f
  repeat' first
      | (with_reducible exact impl_term_length.mono _ _ _)
      | (with_reducible exact LeO.refl _)
      | (with_reducible exact LeO.none _)
      | (with_reducible refine LeO.ite ?_ ?_)
      | (with_reducible refine LeO.bind ?_ (fun _ => ?_))
      | exact impl_term_length.mono _ _ _
      | exact LeO.none _
      | refine LeO.ite ?_ ?_
      | refine LeO.bind ?_ (fun _ => ?_)
def impl_walkable.T2 : Bool × List (List Nat × List Nat) := (true, [([], []), ([], []), ([1], [1]), ([2], [2]), ([3, 2, 2], [2, 3]), ([4, 2], [2, 4]), ([2, 5], [2, 5]), ([0, 4, 0], [0]), ([6, 7, 0, 1, 2, 3, 4, 5, 6, 7], [6])])
def impl_walkable.B2 : List Nat := [0, 0, 2, 6, 14, 30, 62, 31, 255]
theorem impl_walkable.tab2 : rtab .any (opsOf Try.f24 2) = impl_walkable.T2 := by kernel_rfl
theorem impl_walkable.bits2 : waitsOk impl_walkable.T2.2 impl_walkable.B2 = true := by kernel_rfl
set_option maxHeartbeats 8000000 in
set_option maxRecDepth 100000 in
theorem impl_walkable.calls (k : Nat) (a0 : ByteArray) (r1 : Int) (r2 : List (S39)) (r3 : Bool) (w : World) (h : impl_walkable.f k a0 = some (r1, r2, r3)) :
    Calls Try.prog 24 #[.string a0] w fun e w' => ∃ v1_ : Value, e = .returned (.tuple #[.agg #[.int .u8 r1, v1_], .bool r3]) ∧ Kd.R k39 39 w' w.heap.size (fun _ => True) v1_ r2 ∧ Below w.heap.size w w' := by
  have hu39 := Try.underlying39
  have HB := Aside0.mk (Below.refl w.heap.size w)
  have H : ((impl_readTerm.f a0).bind fun bt169 => (if bt169.2.2 = true then ((impl_term_length.f k bt169.1 bt169.2.1).bind fun t175 => (some (bt169.1, bt169.2.1, decide (t175 ≤ 200)))) else (some (bt169.1, bt169.2.1, false)))) = some (r1, r2, r3) := h
  clear h
  replace H := Option.bind_eq_some_iff.mp H
  obtain ⟨⟨t169, t170, t173⟩, A20, H⟩ := H
  replace H : (if t173 = true then ((impl_term_length.f k t169 t170).bind fun t175 => (some (t169, t170, decide (t175 ≤ 200)))) else (some (t169, t170, false))) = some (r1, r2, r3) := H
  have A2 := Aside0.mk A20
  clear A20
  by_cases c3 : t173 = true
  · subst c3
    have H1 : ((impl_term_length.f k t169 t170).bind fun t175 => (some (t169, t170, decide (t175 ≤ 200)))) = some (r1, r2, r3) := by rw [if_pos rfl] at H; exact H
    clear H
    have H := H1
    clear H1
    replace H := Option.bind_eq_some_iff.mp H
    obtain ⟨t175, A40, H⟩ := H
    replace H : (some (t169, t170, decide (t175 ≤ 200))) = some (r1, r2, r3) := H
    have A4 := Aside0.mk A40
    clear A40
    simp only [Option.some.injEq, Prod.mk.injEq] at H
    obtain ⟨rfl, rfl, rfl⟩ := H
    go_enter Try.func24, Try.ntmps24
    try go_wp2_with (first | ((with_reducible refine gate_dst (N := 2) rfl ?_); refine box_event ?hg (N := 2) ?hd (cs := #[.int .u8 0, .slice none 0 0]) (t := 39) ?hr ?_; (case hd => rfl); (case hg => rfl); (case hr => first | (go_simp; done) | (go_simp; rfl)); intro gb168 hg w5 hbox hb; have n0_ := Aside0.mk (below_step (by repeat (first | (with_reducible first | exact HB.out | apply below_alloc | apply pw_below_drewN | apply below_drew1) | exact HB.out)) hb); have n1_ := Aside0.mk (hbox); have n2_ := Aside0.mk ((by rw [hg]; exact (below_size (by repeat (first | (with_reducible first | exact HB.out | apply below_alloc | apply pw_below_drewN | apply below_drew1) | exact HB.out))) : w.heap.size ≤ gb168)); have n3_ := Aside0.mk ((by rw [hg]; exact (below_size (by repeat (first | (with_reducible first | exact HB.out | apply below_alloc | apply pw_below_drewN | apply below_drew1) | exact HB.out))) : w.heap.size ≤ gb168)); clear HB; have HB := n0_; have BK168 := n1_; have GW168 := n2_; have GE168 := n3_; clear n0_ n1_ n2_ n3_; clear hb hbox hg) | ((with_reducible refine gate_callee (f := 21) rfl ?_); refine goesL_ (some 8) rfl rfl Try.func21 (by kernel_rfl) rfl #[.string a0] rfl (by (try simp only [List.map_toArray, List.map_cons, List.map_nil]); first | done | rfl | (simp only [List.length_drop, List.length_take]; rfl)) ?_; (with_reducible refine (impl_readTerm.calls a0 t169 t170 true _ A2.out).mono ?_); rintro e w6 ⟨v171, rfl, ho0, hb⟩; refine ⟨_, rfl, ?_⟩; have n0_ := Aside0.mk (Kd.R_lower (Kd.R_newB ho0 (g := gb168) (o := .cells #[.int .u8 0, .slice none 0 0] 39 (0, 0)) (by (with_reducible repeat (first | refine blk_drewN ?_ _ | refine blk_drew ?_ | refine blk_alloc ?_ _)); exact BK168.out)) (below_size (by repeat (first | (with_reducible first | exact HB.out | apply below_alloc | apply pw_below_drewN | apply below_drew1 | refine below_set ?_ GE168.out) | exact HB.out)))); have n1_ := Aside0.mk (blk_below (g := gb168) (o := .cells #[.int .u8 0, .slice none 0 0] 39 (0, 0)) (by (with_reducible repeat (first | refine blk_drewN ?_ _ | refine blk_drew ?_ | refine blk_alloc ?_ _)); exact BK168.out) hb); have n2_ := Aside0.mk (below_step (by repeat (first | (with_reducible first | exact HB.out | apply below_alloc | apply pw_below_drewN | apply below_drew1 | refine below_set ?_ GE168.out) | exact HB.out)) hb); clear BK168; clear HB; have HO172 := n0_; have BK168 := n1_; have HB := n2_; clear n0_ n1_ n2_; (try clear hb); (try clear hb2); (try clear hk); (try clear hi); (try clear ho0)) | ((with_reducible refine gate_dst (N := 4) rfl ?_); refine box_event ?hg (N := 4) ?hd (cs := #[.int .u8 0, .slice none 0 0]) (t := 39) ?hr ?_; (case hd => rfl); (case hg => rfl); (case hr => first | (go_simp; done) | (go_simp; rfl)); intro gb174 hg w7 hbox hb; have n0_ := Aside0.mk (Kd.R_below (Kd.R_elderB (by (with_reducible repeat (first | apply Kd.R_alloc | apply Kd.R_drewN | apply Kd.R_drew)); exact HO172.out) gb174 (Nat.le_of_eq hg.symm)) hb); have n1_ := Aside0.mk (blk_below (g := gb168) (o := .cells #[.int .u8 0, .slice none 0 0] 39 (0, 0)) (by (with_reducible repeat (first | refine blk_drewN ?_ _ | refine blk_drew ?_ | refine blk_alloc ?_ _)); exact BK168.out) hb); have n2_ := Aside0.mk (below_step (by repeat (first | (with_reducible first | exact HB.out | apply below_alloc | apply pw_below_drewN | apply below_drew1 | refine below_set ?_ GE168.out) | exact HB.out)) hb); have n3_ := Aside0.mk (hbox); have n4_ := Aside0.mk ((by rw [hg]; exact (below_size (by repeat (first | (with_reducible first | exact HB.out | apply below_alloc | apply pw_below_drewN | apply below_drew1 | refine below_set ?_ GE168.out) | exact HB.out))) : w.heap.size ≤ gb174)); have n5_ := Aside0.mk ((by rw [hg]; exact (below_size (by repeat (first | (with_reducible first | exact HB.out | apply below_alloc | apply pw_below_drewN | apply below_drew1 | refine below_set ?_ GE168.out) | exact HB.out))) : w.heap.size ≤ gb174)); have n6_ := Aside0.mk ((by rw [hg]; exact Nat.ne_of_lt (blk_lt (g := gb168) (o := .cells #[.int .u8 0, .slice none 0 0] 39 (0, 0)) (by (with_reducible repeat (first | refine blk_drewN ?_ _ | refine blk_drew ?_ | refine blk_alloc ?_ _)); exact BK168.out)) : gb168 ≠ gb174)); have n7_ := Aside0.mk ((by rw [hg]; exact Nat.ne_of_gt (blk_lt (g := gb168) (o := .cells #[.int .u8 0, .slice none 0 0] 39 (0, 0)) (by (with_reducible repeat (first | refine blk_drewN ?_ _ | refine blk_drew ?_ | refine blk_alloc ?_ _)); exact BK168.out)) : gb174 ≠ gb168)); clear HO172; clear BK168; clear HB; have HO172 := n0_; have BK168 := n1_; have HB := n2_; have BK174 := n3_; have GW174 := n4_; have GE174 := n5_; have NB168_174 := n6_; have NB174_168 := n7_; clear n0_ n1_ n2_ n3_ n4_ n5_ n6_ n7_; clear hb hbox hg; have hnb8 := NB174_168.out; have hnc8 := NB168_174.out; have hcz9_0 : w7.cell? ⟨gb174, 0, none⟩ = some (.int .u8 0) := (blk_cell BK174.out 0).trans rfl; have hcz9_1 : w7.cell? ⟨gb174, 1, none⟩ = some (.slice none 0 0) := (blk_cell BK174.out 1).trans rfl; have hfz9_0 := blk_frozen BK174.out 0; have hfz9_1 := blk_frozen BK174.out 1; obtain ⟨Ao10, co10, eo10⟩ := Kd.R_slice HO172.out; subst eo10))
    have n0_ : Aside0 (Kd.R k39 39 ((w7.setCell ⟨gb174, 0, none⟩ (.int .u8 t169)).setCell ⟨gb174, 1, none⟩ (.slice Ao10 t170.length co10)) w.heap.size (fun k_ => k_ ≠ gb168 ∧ k_ ≠ gb174) (.slice Ao10 t170.length co10) t170) := ⟨by (with_reducible repeat (first | apply Kd.R_alloc | apply Kd.R_drewN | apply Kd.R_drew)); exact Kd.R_mono (Kd.R_far (p := ⟨gb174, 1, none⟩) (Kd.R_far (p := ⟨gb174, 0, none⟩) (Kd.R_mono HO172.out (fun k_ hk => (⟨hk, hk.2⟩ : _ ∧ k_ ≠ gb174))) (fun _ hk => hk.2) (.int .u8 t169)) (fun _ hk => hk.2) (.slice Ao10 t170.length co10)) (fun _ hk => ⟨hk.1.1.2, hk.1.2⟩)⟩
    have n1_ : Aside0 (((w7.setCell ⟨gb174, 0, none⟩ (.int .u8 t169)).setCell ⟨gb174, 1, none⟩ (.slice Ao10 t170.length co10)).heap[gb168]? = some (.cells #[.int .u8 0, .slice none 0 0] 39 (0, 0))) := ⟨by (with_reducible repeat (first | refine blk_drewN ?_ _ | refine blk_drew ?_ | refine blk_alloc ?_ _)); refine blk_far ?_ NB168_174.out _; (with_reducible repeat (first | refine blk_drewN ?_ _ | refine blk_drew ?_ | refine blk_alloc ?_ _)); refine blk_far ?_ NB168_174.out _; (with_reducible repeat (first | refine blk_drewN ?_ _ | refine blk_drew ?_ | refine blk_alloc ?_ _)); exact BK168.out⟩
    have n2_ : Aside0 (((w7.setCell ⟨gb174, 0, none⟩ (.int .u8 t169)).setCell ⟨gb174, 1, none⟩ (.slice Ao10 t170.length co10)).heap[gb174]? = some (.cells #[.int .u8 t169, .slice Ao10 t170.length co10] 39 (0, 0))) := ⟨by (with_reducible repeat (first | refine blk_drewN ?_ _ | refine blk_drew ?_ | refine blk_alloc ?_ _)); refine blk_put (cs := #[.int .u8 t169, .slice none 0 0]) ?_ 1 _ rfl; (with_reducible repeat (first | refine blk_drewN ?_ _ | refine blk_drew ?_ | refine blk_alloc ?_ _)); refine blk_put (cs := #[.int .u8 0, .slice none 0 0]) ?_ 0 _ rfl; (with_reducible repeat (first | refine blk_drewN ?_ _ | refine blk_drew ?_ | refine blk_alloc ?_ _)); exact BK174.out⟩
    have n3_ : Aside0 (Below w.heap.size w ((w7.setCell ⟨gb174, 0, none⟩ (.int .u8 t169)).setCell ⟨gb174, 1, none⟩ (.slice Ao10 t170.length co10))) := ⟨by repeat (first | (with_reducible first | exact HB.out | apply below_alloc | apply pw_below_drewN | apply below_drew1 | refine below_set ?_ GE168.out | refine below_set ?_ GE174.out) | exact HB.out)⟩
    (try clear HO172)
    (try clear BK168)
    (try clear BK174)
    (try clear HB)
    generalize ((w7.setCell ⟨gb174, 0, none⟩ (.int .u8 t169)).setCell ⟨gb174, 1, none⟩ (.slice Ao10 t170.length co10)) = w11 at n0_ n1_ n2_ n3_ ⊢
    have HO172 := n0_
    have BK168 := n1_
    have BK174 := n2_
    have HB := n3_
    clear n0_ n1_ n2_ n3_
    have n0_ := Aside0.mk (Kd.R_drew HO172.out)
    have n1_ := Aside0.mk (blk_drew BK168.out)
    have n2_ := Aside0.mk (blk_drew BK174.out)
    have n3_ := Aside0.mk (below_drew1 HB.out)
    clear HO172
    clear BK168
    clear BK174
    clear HB
    have HO172 := n0_
    have BK168 := n1_
    have BK174 := n2_
    have HB := n3_
    clear n0_ n1_ n2_ n3_
    refine start_ (n := 9) (S := fun w' => w'.cell? ⟨gb174, 0, none⟩ = some (.int .u8 t169) ∧ w'.cell? ⟨gb174, 1, none⟩ = some (.slice Ao10 t170.length co10)) (ds := []) #[false, false, false, false, false, false, false, false, false] (by kernel_rfl) rfl rfl ⟨(blk_cell BK174.out 0).trans rfl, (blk_cell BK174.out 1).trans rfl⟩ (fun hHeld => ?_); refine with_tabW impl_walkable.tab2 impl_walkable.bits2 (fun HT_ HW_ => ?_)
    generalize w11.drew = w12 at HO172 BK168 BK174 HB hHeld ⊢
    refine pure_ (i := 1) (N := some 12) (v := ?_) (a' := ?_) #[false, true, false, false, false, false, false, false, false] rfl rfl (any_of HT_.out (by kernel_rfl)) (fun _ _ _ h => h) (Or.inl ⟨by rfl, ?_⟩) ?_ ?_
    rotate_left
    · intro w'
      go_simp
      with_reducible rfl
    rotate_left
    · simp only [Act.put, List.setIfInBounds_toArray, List.set_cons_zero, List.set_cons_succ, i64_w, i32_w]
      rfl
    refine pure_ (i := 2) (N := some 13) (v := ?_) (a' := ?_) #[false, true, true, false, false, false, false, false, false] rfl rfl (any_of HT_.out (by kernel_rfl)) (fun _ _ _ h => h) (Or.inl ⟨by rfl, ?_⟩) ?_ ?_
    rotate_left
    · intro w'
      go_simp
      with_reducible rfl
    rotate_left
    · simp only [Act.put, List.setIfInBounds_toArray, List.set_cons_zero, List.set_cons_succ, i64_w, i32_w]
      rfl
    refine take_ (i := 0) (N := some 11) (v := ?_) (a' := ?_) #[true, true, true, false, false, false, false, false, false] rfl rfl (take_ofW HT_.out HW_.out (by kernel_rfl)) (fun _ _ _ h => h) (Or.inl ⟨by rfl, ?_⟩) hHeld ?_ ?_
    rotate_left
    · rintro w' ⟨s0, s1⟩
      go_simp
      with_reducible rfl
    rotate_left
    · simp only [Act.put, List.setIfInBounds_toArray, List.set_cons_zero, List.set_cons_succ, i64_w, i32_w]
      rfl
    refine take_ (i := 3) (N := some 14) (v := ?_) (a' := ?_) #[true, true, true, true, false, false, false, false, false] rfl rfl (take_ofW HT_.out HW_.out (by kernel_rfl)) (fun _ _ _ h => h) (Or.inl ⟨by rfl, ?_⟩) hHeld ?_ ?_
    rotate_left
    · rintro w' ⟨s0, s1⟩
      go_simp
      with_reducible rfl
    rotate_left
    · simp only [Act.put, List.setIfInBounds_toArray, List.set_cons_zero, List.set_cons_succ, i64_w, i32_w]
      rfl
    refine one_ (i := 4) (N := some 15) #[true, true, true, true, true, false, false, false, false] rfl rfl (one_of HT_.out (by kernel_rfl)) (by decide) (fun K hK => ?_)
    refine goes_ Try.func25 (by kernel_rfl) rfl #[.agg #[.int .u8 t169, .slice Ao10 t170.length co10]] (by rfl) rfl rfl (by (try simp only [List.map_toArray, List.map_cons, List.map_nil]); first | done | rfl | (simp only [List.length_drop, List.length_take]; rfl)) ?_
    with_reducible refine (impl_term_length.calls k t169 _ _ t170 t175 _ ?side1 ?side2 A4.out).mono ?_
    (case side1 => repeat (first | exact (Kd.R_reads' HO172.out).2.2 | (with_reducible refine Kd.C_alloc ?_ _) | (with_reducible refine Kd.C_drewN ?_ _) | (with_reducible refine Kd.C_drew ?_)))
    (case side2 => exact (Kd.R_reads' HO172.out).2.1)
    rintro e w13 ⟨rfl, hb⟩
    refine ⟨_, rfl, ?_⟩
    have n0_ := Aside0.mk (Kd.R_below (by (with_reducible repeat (first | apply Kd.R_alloc | apply Kd.R_drewN | apply Kd.R_drew)); exact HO172.out) hb)
    have n1_ := Aside0.mk (blk_below (g := gb168) (o := .cells #[.int .u8 0, .slice none 0 0] 39 (0, 0)) (by (with_reducible repeat (first | refine blk_drewN ?_ _ | refine blk_drew ?_ | refine blk_alloc ?_ _)); exact BK168.out) hb)
    have n2_ := Aside0.mk (blk_below (g := gb174) (o := .cells #[.int .u8 t169, .slice Ao10 t170.length co10] 39 (0, 0)) (by (with_reducible repeat (first | refine blk_drewN ?_ _ | refine blk_drew ?_ | refine blk_alloc ?_ _)); exact BK174.out) hb)
    have n3_ := Aside0.mk (below_step (by repeat (first | (with_reducible first | exact HB.out | apply below_alloc | apply pw_below_drewN | apply below_drew1 | refine below_set ?_ GE168.out | refine below_set ?_ GE174.out) | exact HB.out)) hb)
    clear HO172
    clear BK168
    clear BK174
    clear HB
    have HO172 := n0_
    have BK168 := n1_
    have BK174 := n2_
    have HB := n3_
    clear n0_ n1_ n2_ n3_
    (try clear hb)
    (try clear hb2)
    (try clear hk)
    (try clear hi)
    refine hK.out _ _ ⟨(blk_cell BK174.out 0).trans rfl, (blk_cell BK174.out 1).trans rfl⟩ (fun hHeld => ?_)
    clear hK K
    refine norm_ (a' := ?_) ?_ ?_
    rotate_left
    · show Act.put _ (some 15) _ = _
      simp only [Act.put, List.setIfInBounds_toArray, List.set_cons_zero, List.set_cons_succ, i64_w, i32_w]
      rfl
    refine pure_ (i := 5) (N := some 16) (v := ?_) (a' := ?_) #[true, true, true, true, true, true, false, false, false] rfl rfl (any_of HT_.out (by kernel_rfl)) (fun _ _ _ h => h) (Or.inl ⟨by rfl, ?_⟩) ?_ ?_
    rotate_left
    · intro w'
      go_simp
      with_reducible rfl
    rotate_left
    · simp only [Act.put, List.setIfInBounds_toArray, List.set_cons_zero, List.set_cons_succ, i64_w, i32_w]
      rfl
    refine pure_ (i := 6) (N := some 17) (v := ?_) (a' := ?_) #[true, true, true, true, true, true, true, false, false] rfl rfl (any_of HT_.out (by kernel_rfl)) (fun _ _ _ h => h) (Or.inl ⟨by rfl, ?_⟩) ?_ ?_
    rotate_left
    · intro w'
      go_simp
      with_reducible rfl
    rotate_left
    · simp only [Act.put, List.setIfInBounds_toArray, List.set_cons_zero, List.set_cons_succ, i64_w, i32_w]
      rfl
    refine one_ (i := 7) (N := none) #[true, true, true, true, true, true, true, true, false] rfl rfl (one_of HT_.out (by kernel_rfl)) (by decide) (fun K hK => ?_)
    have hs14 : w13.cell? ⟨gb168, 0, none⟩ = some (.int .u8 0) := (blk_cell BK168.out 0).trans rfl
    have hfs14 := blk_frozen BK168.out 0
    have hns14_1 := NB174_168.out
    have hms14_1 := NB168_174.out
    have hs15 : w13.cell? ⟨gb168, 1, none⟩ = some (.slice none 0 0) := (blk_cell BK168.out 1).trans rfl
    have hfs15 := blk_frozen BK168.out 1
    have hns15_1 := NB174_168.out
    have hms15_1 := NB168_174.out
    refine skip_ (w1 := ?_) (by rfl) rfl ?_ ?_
    rotate_left
    · go_simp
      rfl
    refine hK.out _ _ ⟨((cell_far (p := ⟨gb168, _, none⟩) NB174_168.out _).trans (((cell_far (p := ⟨gb168, _, none⟩) NB174_168.out _).trans (hHeld.1)))), ((cell_far (p := ⟨gb168, _, none⟩) NB174_168.out _).trans (((cell_far (p := ⟨gb168, _, none⟩) NB174_168.out _).trans (hHeld.2))))⟩ (fun hHeld => ?_)
    clear hK K
    refine pure_ (i := 8) (N := some 3) (v := ?_) (a' := ?_) #[true, true, true, true, true, true, true, true, true] rfl rfl (any_of HT_.out (by kernel_rfl)) (fun _ _ _ h => h) (Or.inl ⟨by rfl, ?_⟩) ?_ ?_
    rotate_left
    · intro w'
      go_simp
      with_reducible rfl
    rotate_left
    · simp only [Act.put, List.setIfInBounds_toArray, List.set_cons_zero, List.set_cons_succ, i64_w, i32_w]
      rfl
    refine done_ (done_of HT_.out (by kernel_rfl)) ?_
    try go_wp2
    refine bodyPost_ret (results_ct rfl _ _ gb168 39 #[.int .u8 t169, .slice Ao10 t170.length co10] (0, 0) _ rfl (by (with_reducible repeat (first | refine blk_drewN ?_ _ | refine blk_drew ?_ | refine blk_alloc ?_ _)); refine blk_put (cs := #[.int .u8 t169, .slice none 0 0]) ?_ 1 _ rfl; (with_reducible repeat (first | refine blk_drewN ?_ _ | refine blk_drew ?_ | refine blk_alloc ?_ _)); refine blk_put (cs := #[.int .u8 0, .slice none 0 0]) ?_ 0 _ rfl; (with_reducible repeat (first | refine blk_drewN ?_ _ | refine blk_drew ?_ | refine blk_alloc ?_ _)); exact BK168.out) Try.underlying39 rfl (by kernel_rfl)) rfl ?_
    exact ⟨_, by first | rfl | (simp [errW_none, errW_some] <;> rfl) | (simp [*, errW_none, errW_some] <;> rfl), by (with_reducible repeat (first | apply Kd.R_alloc | apply Kd.R_drewN | apply Kd.R_drew)); exact Kd.R_mono (Kd.R_far (p := ⟨gb168, 1, none⟩) (Kd.R_far (p := ⟨gb168, 0, none⟩) (Kd.R_mono HO172.out (fun k_ hk => (⟨hk, hk.1⟩ : _ ∧ k_ ≠ gb168))) (fun _ hk => hk.2) (.int .u8 t169)) (fun _ hk => hk.2) (.slice Ao10 t170.length co10)) (fun _ hk => trivial), by repeat (first | (with_reducible first | exact HB.out | apply below_alloc | apply pw_below_drewN | apply below_drew1 | refine below_set ?_ GE168.out | refine below_set ?_ GE174.out) | exact HB.out)⟩
  · replace c3 := Bool.eq_false_iff.mpr c3
    subst c3
    have H1 : (some (t169, t170, false)) = some (r1, r2, r3) := by rw [if_neg (show ¬ (false = true) by decide)] at H; exact H
    clear H
    have H := H1
    clear H1
    simp only [Option.some.injEq, Prod.mk.injEq] at H
    obtain ⟨rfl, rfl, rfl⟩ := H
    go_enter Try.func24, Try.ntmps24
    try go_wp2_with (first | ((with_reducible refine gate_dst (N := 2) rfl ?_); refine box_event ?hg (N := 2) ?hd (cs := #[.int .u8 0, .slice none 0 0]) (t := 39) ?hr ?_; (case hd => rfl); (case hg => rfl); (case hr => first | (go_simp; done) | (go_simp; rfl)); intro gb168 hg w16 hbox hb; have n0_ := Aside0.mk (below_step (by repeat (first | (with_reducible first | exact HB.out | apply below_alloc | apply pw_below_drewN | apply below_drew1) | exact HB.out)) hb); have n1_ := Aside0.mk (hbox); have n2_ := Aside0.mk ((by rw [hg]; exact (below_size (by repeat (first | (with_reducible first | exact HB.out | apply below_alloc | apply pw_below_drewN | apply below_drew1) | exact HB.out))) : w.heap.size ≤ gb168)); have n3_ := Aside0.mk ((by rw [hg]; exact (below_size (by repeat (first | (with_reducible first | exact HB.out | apply below_alloc | apply pw_below_drewN | apply below_drew1) | exact HB.out))) : w.heap.size ≤ gb168)); clear HB; have HB := n0_; have BK168 := n1_; have GW168 := n2_; have GE168 := n3_; clear n0_ n1_ n2_ n3_; clear hb hbox hg) | ((with_reducible refine gate_callee (f := 21) rfl ?_); refine goesL_ (some 8) rfl rfl Try.func21 (by kernel_rfl) rfl #[.string a0] rfl (by (try simp only [List.map_toArray, List.map_cons, List.map_nil]); first | done | rfl | (simp only [List.length_drop, List.length_take]; rfl)) ?_; (with_reducible refine (impl_readTerm.calls a0 t169 t170 false _ A2.out).mono ?_); rintro e w17 ⟨v171, rfl, ho0, hb⟩; refine ⟨_, rfl, ?_⟩; have n0_ := Aside0.mk (Kd.R_lower (Kd.R_newB ho0 (g := gb168) (o := .cells #[.int .u8 0, .slice none 0 0] 39 (0, 0)) (by (with_reducible repeat (first | refine blk_drewN ?_ _ | refine blk_drew ?_ | refine blk_alloc ?_ _)); exact BK168.out)) (below_size (by repeat (first | (with_reducible first | exact HB.out | apply below_alloc | apply pw_below_drewN | apply below_drew1 | refine below_set ?_ GE168.out) | exact HB.out)))); have n1_ := Aside0.mk (blk_below (g := gb168) (o := .cells #[.int .u8 0, .slice none 0 0] 39 (0, 0)) (by (with_reducible repeat (first | refine blk_drewN ?_ _ | refine blk_drew ?_ | refine blk_alloc ?_ _)); exact BK168.out) hb); have n2_ := Aside0.mk (below_step (by repeat (first | (with_reducible first | exact HB.out | apply below_alloc | apply pw_below_drewN | apply below_drew1 | refine below_set ?_ GE168.out) | exact HB.out)) hb); clear BK168; clear HB; have HO172 := n0_; have BK168 := n1_; have HB := n2_; clear n0_ n1_ n2_; (try clear hb); (try clear hb2); (try clear hk); (try clear hi); (try clear ho0)) | ((with_reducible refine gate_dst (N := 4) rfl ?_); refine box_event ?hg (N := 4) ?hd (cs := #[.int .u8 0, .slice none 0 0]) (t := 39) ?hr ?_; (case hd => rfl); (case hg => rfl); (case hr => first | (go_simp; done) | (go_simp; rfl)); intro gb174 hg w18 hbox hb; have n0_ := Aside0.mk (Kd.R_below (Kd.R_elderB (by (with_reducible repeat (first | apply Kd.R_alloc | apply Kd.R_drewN | apply Kd.R_drew)); exact HO172.out) gb174 (Nat.le_of_eq hg.symm)) hb); have n1_ := Aside0.mk (blk_below (g := gb168) (o := .cells #[.int .u8 0, .slice none 0 0] 39 (0, 0)) (by (with_reducible repeat (first | refine blk_drewN ?_ _ | refine blk_drew ?_ | refine blk_alloc ?_ _)); exact BK168.out) hb); have n2_ := Aside0.mk (below_step (by repeat (first | (with_reducible first | exact HB.out | apply below_alloc | apply pw_below_drewN | apply below_drew1 | refine below_set ?_ GE168.out) | exact HB.out)) hb); have n3_ := Aside0.mk (hbox); have n4_ := Aside0.mk ((by rw [hg]; exact (below_size (by repeat (first | (with_reducible first | exact HB.out | apply below_alloc | apply pw_below_drewN | apply below_drew1 | refine below_set ?_ GE168.out) | exact HB.out))) : w.heap.size ≤ gb174)); have n5_ := Aside0.mk ((by rw [hg]; exact (below_size (by repeat (first | (with_reducible first | exact HB.out | apply below_alloc | apply pw_below_drewN | apply below_drew1 | refine below_set ?_ GE168.out) | exact HB.out))) : w.heap.size ≤ gb174)); have n6_ := Aside0.mk ((by rw [hg]; exact Nat.ne_of_lt (blk_lt (g := gb168) (o := .cells #[.int .u8 0, .slice none 0 0] 39 (0, 0)) (by (with_reducible repeat (first | refine blk_drewN ?_ _ | refine blk_drew ?_ | refine blk_alloc ?_ _)); exact BK168.out)) : gb168 ≠ gb174)); have n7_ := Aside0.mk ((by rw [hg]; exact Nat.ne_of_gt (blk_lt (g := gb168) (o := .cells #[.int .u8 0, .slice none 0 0] 39 (0, 0)) (by (with_reducible repeat (first | refine blk_drewN ?_ _ | refine blk_drew ?_ | refine blk_alloc ?_ _)); exact BK168.out)) : gb174 ≠ gb168)); clear HO172; clear BK168; clear HB; have HO172 := n0_; have BK168 := n1_; have HB := n2_; have BK174 := n3_; have GW174 := n4_; have GE174 := n5_; have NB168_174 := n6_; have NB174_168 := n7_; clear n0_ n1_ n2_ n3_ n4_ n5_ n6_ n7_; clear hb hbox hg; have hnb19 := NB174_168.out; have hnc19 := NB168_174.out; have hcz20_0 : w18.cell? ⟨gb174, 0, none⟩ = some (.int .u8 0) := (blk_cell BK174.out 0).trans rfl; have hcz20_1 : w18.cell? ⟨gb174, 1, none⟩ = some (.slice none 0 0) := (blk_cell BK174.out 1).trans rfl; have hfz20_0 := blk_frozen BK174.out 0; have hfz20_1 := blk_frozen BK174.out 1; obtain ⟨Ao21, co21, eo21⟩ := Kd.R_slice HO172.out; subst eo21))
    have n0_ : Aside0 (Kd.R k39 39 ((w18.setCell ⟨gb174, 0, none⟩ (.int .u8 t169)).setCell ⟨gb174, 1, none⟩ (.slice Ao21 t170.length co21)) w.heap.size (fun k_ => k_ ≠ gb168 ∧ k_ ≠ gb174) (.slice Ao21 t170.length co21) t170) := ⟨by (with_reducible repeat (first | apply Kd.R_alloc | apply Kd.R_drewN | apply Kd.R_drew)); exact Kd.R_mono (Kd.R_far (p := ⟨gb174, 1, none⟩) (Kd.R_far (p := ⟨gb174, 0, none⟩) (Kd.R_mono HO172.out (fun k_ hk => (⟨hk, hk.2⟩ : _ ∧ k_ ≠ gb174))) (fun _ hk => hk.2) (.int .u8 t169)) (fun _ hk => hk.2) (.slice Ao21 t170.length co21)) (fun _ hk => ⟨hk.1.1.2, hk.1.2⟩)⟩
    have n1_ : Aside0 (((w18.setCell ⟨gb174, 0, none⟩ (.int .u8 t169)).setCell ⟨gb174, 1, none⟩ (.slice Ao21 t170.length co21)).heap[gb168]? = some (.cells #[.int .u8 0, .slice none 0 0] 39 (0, 0))) := ⟨by (with_reducible repeat (first | refine blk_drewN ?_ _ | refine blk_drew ?_ | refine blk_alloc ?_ _)); refine blk_far ?_ NB168_174.out _; (with_reducible repeat (first | refine blk_drewN ?_ _ | refine blk_drew ?_ | refine blk_alloc ?_ _)); refine blk_far ?_ NB168_174.out _; (with_reducible repeat (first | refine blk_drewN ?_ _ | refine blk_drew ?_ | refine blk_alloc ?_ _)); exact BK168.out⟩
    have n2_ : Aside0 (((w18.setCell ⟨gb174, 0, none⟩ (.int .u8 t169)).setCell ⟨gb174, 1, none⟩ (.slice Ao21 t170.length co21)).heap[gb174]? = some (.cells #[.int .u8 t169, .slice Ao21 t170.length co21] 39 (0, 0))) := ⟨by (with_reducible repeat (first | refine blk_drewN ?_ _ | refine blk_drew ?_ | refine blk_alloc ?_ _)); refine blk_put (cs := #[.int .u8 t169, .slice none 0 0]) ?_ 1 _ rfl; (with_reducible repeat (first | refine blk_drewN ?_ _ | refine blk_drew ?_ | refine blk_alloc ?_ _)); refine blk_put (cs := #[.int .u8 0, .slice none 0 0]) ?_ 0 _ rfl; (with_reducible repeat (first | refine blk_drewN ?_ _ | refine blk_drew ?_ | refine blk_alloc ?_ _)); exact BK174.out⟩
    have n3_ : Aside0 (Below w.heap.size w ((w18.setCell ⟨gb174, 0, none⟩ (.int .u8 t169)).setCell ⟨gb174, 1, none⟩ (.slice Ao21 t170.length co21))) := ⟨by repeat (first | (with_reducible first | exact HB.out | apply below_alloc | apply pw_below_drewN | apply below_drew1 | refine below_set ?_ GE168.out | refine below_set ?_ GE174.out) | exact HB.out)⟩
    (try clear HO172)
    (try clear BK168)
    (try clear BK174)
    (try clear HB)
    generalize ((w18.setCell ⟨gb174, 0, none⟩ (.int .u8 t169)).setCell ⟨gb174, 1, none⟩ (.slice Ao21 t170.length co21)) = w22 at n0_ n1_ n2_ n3_ ⊢
    have HO172 := n0_
    have BK168 := n1_
    have BK174 := n2_
    have HB := n3_
    clear n0_ n1_ n2_ n3_
    have n0_ := Aside0.mk (Kd.R_drew HO172.out)
    have n1_ := Aside0.mk (blk_drew BK168.out)
    have n2_ := Aside0.mk (blk_drew BK174.out)
    have n3_ := Aside0.mk (below_drew1 HB.out)
    clear HO172
    clear BK168
    clear BK174
    clear HB
    have HO172 := n0_
    have BK168 := n1_
    have BK174 := n2_
    have HB := n3_
    clear n0_ n1_ n2_ n3_
    refine start_ (n := 9) (S := fun w' => w'.cell? ⟨gb174, 0, none⟩ = some (.int .u8 t169) ∧ w'.cell? ⟨gb174, 1, none⟩ = some (.slice Ao21 t170.length co21)) (ds := []) #[false, false, false, false, false, false, false, false, false] (by kernel_rfl) rfl rfl ⟨(blk_cell BK174.out 0).trans rfl, (blk_cell BK174.out 1).trans rfl⟩ (fun hHeld => ?_); refine with_tabW impl_walkable.tab2 impl_walkable.bits2 (fun HT_ HW_ => ?_)
    generalize w22.drew = w23 at HO172 BK168 BK174 HB hHeld ⊢
    refine pure_ (i := 1) (N := some 12) (v := ?_) (a' := ?_) #[false, true, false, false, false, false, false, false, false] rfl rfl (any_of HT_.out (by kernel_rfl)) (fun _ _ _ h => h) (Or.inl ⟨by rfl, ?_⟩) ?_ ?_
    rotate_left
    · intro w'
      go_simp
      with_reducible rfl
    rotate_left
    · simp only [Act.put, List.setIfInBounds_toArray, List.set_cons_zero, List.set_cons_succ, i64_w, i32_w]
      rfl
    refine pure_ (i := 2) (N := some 13) (v := ?_) (a' := ?_) #[false, true, true, false, false, false, false, false, false] rfl rfl (any_of HT_.out (by kernel_rfl)) (fun _ _ _ h => h) (Or.inl ⟨by rfl, ?_⟩) ?_ ?_
    rotate_left
    · intro w'
      go_simp
      with_reducible rfl
    rotate_left
    · simp only [Act.put, List.setIfInBounds_toArray, List.set_cons_zero, List.set_cons_succ, i64_w, i32_w]
      rfl
    refine pure_ (i := 3) (N := some 14) (v := undef) (a' := ?_) #[false, true, true, true, false, false, false, false, false] rfl rfl (any_of HT_.out (by kernel_rfl)) (fun _ _ _ h => h) (Or.inr ⟨by rfl, rfl⟩) ?_ ?_
    rotate_left
    · simp only [Act.put, List.setIfInBounds_toArray, List.set_cons_zero, List.set_cons_succ, i64_w, i32_w]
      rfl
    refine pure_ (i := 4) (N := some 15) (v := undef) (a' := ?_) #[false, true, true, true, true, false, false, false, false] rfl rfl (any_of HT_.out (by kernel_rfl)) (fun _ _ _ h => h) (Or.inr ⟨by rfl, rfl⟩) ?_ ?_
    rotate_left
    · simp only [Act.put, List.setIfInBounds_toArray, List.set_cons_zero, List.set_cons_succ, i64_w, i32_w]
      rfl
    refine pure_ (i := 5) (N := some 16) (v := undef) (a' := ?_) #[false, true, true, true, true, true, false, false, false] rfl rfl (any_of HT_.out (by kernel_rfl)) (fun _ _ _ h => h) (Or.inr ⟨by rfl, rfl⟩) ?_ ?_
    rotate_left
    · simp only [Act.put, List.setIfInBounds_toArray, List.set_cons_zero, List.set_cons_succ, i64_w, i32_w]
      rfl
    refine pure_ (i := 6) (N := some 17) (v := ?_) (a' := ?_) #[false, true, true, true, true, true, true, false, false] rfl rfl (any_of HT_.out (by kernel_rfl)) (fun _ _ _ h => h) (Or.inl ⟨by rfl, ?_⟩) ?_ ?_
    rotate_left
    · intro w'
      go_simp
      with_reducible rfl
    rotate_left
    · simp only [Act.put, List.setIfInBounds_toArray, List.set_cons_zero, List.set_cons_succ, i64_w, i32_w]
      rfl
    refine take_ (i := 0) (N := some 11) (v := ?_) (a' := ?_) #[true, true, true, true, true, true, true, false, false] rfl rfl (take_ofW HT_.out HW_.out (by kernel_rfl)) (fun _ _ _ h => h) (Or.inl ⟨by rfl, ?_⟩) hHeld ?_ ?_
    rotate_left
    · rintro w' ⟨s0, s1⟩
      go_simp
      with_reducible rfl
    rotate_left
    · simp only [Act.put, List.setIfInBounds_toArray, List.set_cons_zero, List.set_cons_succ, i64_w, i32_w]
      rfl
    refine one_ (i := 7) (N := none) #[true, true, true, true, true, true, true, true, false] rfl rfl (one_of HT_.out (by kernel_rfl)) (by decide) (fun K hK => ?_)
    have hs24 : w23.cell? ⟨gb168, 0, none⟩ = some (.int .u8 0) := (blk_cell BK168.out 0).trans rfl
    have hfs24 := blk_frozen BK168.out 0
    have hns24_1 := NB174_168.out
    have hms24_1 := NB168_174.out
    have hs25 : w23.cell? ⟨gb168, 1, none⟩ = some (.slice none 0 0) := (blk_cell BK168.out 1).trans rfl
    have hfs25 := blk_frozen BK168.out 1
    have hns25_1 := NB174_168.out
    have hms25_1 := NB168_174.out
    refine skip_ (w1 := ?_) (by rfl) rfl ?_ ?_
    rotate_left
    · go_simp
      rfl
    refine hK.out _ _ ⟨((cell_far (p := ⟨gb168, _, none⟩) NB174_168.out _).trans (((cell_far (p := ⟨gb168, _, none⟩) NB174_168.out _).trans (hHeld.1)))), ((cell_far (p := ⟨gb168, _, none⟩) NB174_168.out _).trans (((cell_far (p := ⟨gb168, _, none⟩) NB174_168.out _).trans (hHeld.2))))⟩ (fun hHeld => ?_)
    clear hK K
    refine pure_ (i := 8) (N := some 3) (v := ?_) (a' := ?_) #[true, true, true, true, true, true, true, true, true] rfl rfl (any_of HT_.out (by kernel_rfl)) (fun _ _ _ h => h) (Or.inl ⟨by rfl, ?_⟩) ?_ ?_
    rotate_left
    · intro w'
      go_simp
      with_reducible rfl
    rotate_left
    · simp only [Act.put, List.setIfInBounds_toArray, List.set_cons_zero, List.set_cons_succ, i64_w, i32_w]
      rfl
    refine done_ (done_of HT_.out (by kernel_rfl)) ?_
    try go_wp2
    refine bodyPost_ret (results_ct rfl _ _ gb168 39 #[.int .u8 t169, .slice Ao21 t170.length co21] (0, 0) _ rfl (by (with_reducible repeat (first | refine blk_drewN ?_ _ | refine blk_drew ?_ | refine blk_alloc ?_ _)); refine blk_put (cs := #[.int .u8 t169, .slice none 0 0]) ?_ 1 _ rfl; (with_reducible repeat (first | refine blk_drewN ?_ _ | refine blk_drew ?_ | refine blk_alloc ?_ _)); refine blk_put (cs := #[.int .u8 0, .slice none 0 0]) ?_ 0 _ rfl; (with_reducible repeat (first | refine blk_drewN ?_ _ | refine blk_drew ?_ | refine blk_alloc ?_ _)); exact BK168.out) Try.underlying39 rfl (by kernel_rfl)) rfl ?_
    exact ⟨_, by first | rfl | (simp [errW_none, errW_some] <;> rfl) | (simp [*, errW_none, errW_some] <;> rfl), by (with_reducible repeat (first | apply Kd.R_alloc | apply Kd.R_drewN | apply Kd.R_drew)); exact Kd.R_mono (Kd.R_far (p := ⟨gb168, 1, none⟩) (Kd.R_far (p := ⟨gb168, 0, none⟩) (Kd.R_mono HO172.out (fun k_ hk => (⟨hk, hk.1⟩ : _ ∧ k_ ≠ gb168))) (fun _ hk => hk.2) (.int .u8 t169)) (fun _ hk => hk.2) (.slice Ao21 t170.length co21)) (fun _ hk => trivial), by repeat (first | (with_reducible first | exact HB.out | apply below_alloc | apply pw_below_drewN | apply below_drew1 | refine below_set ?_ GE168.out | refine below_set ?_ GE174.out) | exact HB.out)⟩

/-! ### impl_term_measure: function 30, by hand -/
def impl_term_measure.f : Nat → Int → List S39 → Option (Int × Int × Int)
  | 0, _, _ => none
  | k + 1, c, l =>
    if (l.length : Int) = 0 then (if c = 101 then some (1, 0, 0) else (if c = 110 then some (0, 1, 0) else (if c = 119 then some ((-1), 0, 0) else (if c = 115 then some (0, (-1), 0) else none))))
    else (impl_term_measure.f k ((rd_T39 l 0).f0) ((rd_T39 l 0).f1)).bind fun t =>
      (if c = 64 then some (wrap64 (-t.2.1), t.1, t.2.2)
      else (if c = 45 then some (wrap64 (-t.1), wrap64 (-t.2.1), wrap64 (-t.2.2))
      else (if c = 40 then
        (if 1 < (l.length : Int) then (impl_term_measure.f k ((rd_T39 l 1).f0) ((rd_T39 l 1).f1)).bind fun u =>
          (some (wrap64 (t.1 + u.1), wrap64 (t.2.1 + u.2.1), wrap64 (wrap64 (wrap64 (t.2.2 + u.2.2) + wrap64 (t.1 * u.2.1)) - wrap64 (t.2.1 * u.1)))) else none)
      else some (wrap64 (((c - 48) % 256) * t.1), wrap64 (((c - 48) % 256) * t.2.1), wrap64 (((c - 48) % 256) * t.2.2)))))
theorem impl_term_measure.mono_l : ∀ k, (∀ y0 y1, LeO (impl_term_measure.f k y0 y1) (impl_term_measure.f (k + 1) y0 y1))
  | 0 => fun _ _ r h => by simp [impl_term_measure.f] at h
  | k + 1 => by
    have ih0 := impl_term_measure.mono_l k
    · intro y0 y1
      unfold impl_term_measure.f
      repeat' first
      | (with_reducible exact ih0 _ _)
      | (with_reducible exact LeO.refl _)
      | (with_reducible exact LeO.none _)
      | (with_reducible refine LeO.ite ?_ ?_)
      | (with_reducible refine LeO.bind ?_ (fun _ => ?_))
      | exact ih0 _ _
      | exact LeO.none _
      | refine LeO.ite ?_ ?_
      | refine LeO.bind ?_ (fun _ => ?_)
theorem impl_term_measure.mono : ∀ a0 a1 k, LeO (impl_term_measure.f k a0 a1) (impl_term_measure.f (k + 1) a0 a1) := by
  intro a0 a1 k
  have ih0 := impl_term_measure.mono_l k
  exact ih0 a0 a1
set_option maxHeartbeats 1000000 in
set_option maxRecDepth 100000 in
theorem impl_term_measure.at_leaf (c : Int) (A : Option Addr) (n : Nat) (w : World) (x y : Int) (h : (c = 101 ∧ x = 1 ∧ y = 0) ∨ (c = 110 ∧ x = 0 ∧ y = 1) ∨ (c = 119 ∧ x = -1 ∧ y = 0) ∨ (c = 115 ∧ x = 0 ∧ y = -1)) :
    Calls Try.prog 30 #[.agg #[.int .u8 c, .slice A 0 n]] w fun e w' => e = .returned (.tuple #[.int .i64 x, .int .i64 y, .int .i64 0]) ∧ Below w.heap.size w w' := by
  have hu34 := Try.underlying39
  have hw : ∀ u k, impl_wayOf.f c = some u → u = k → ∀ w, Calls Try.prog 36 #[.int .u8 c] w fun e w' => e = .returned (.int .i64 k) ∧ Drawn0 w w' := by
    intro u k h hk w
    subst hk
    exact impl_wayOf.calls _ _ _ h
  have i0 : ∀ (x0 x1 x2 x3 : Value) (w : World), (Instr.index 58 (.agg #[x0, x1, x2, x3]) (.int .i64 0)).run Try.prog w = .ok x0 w := fun _ _ _ _ _ => by kernel_rfl
  have i1 : ∀ (x0 x1 x2 x3 : Value) (w : World), (Instr.index 58 (.agg #[x0, x1, x2, x3]) (.int .i64 1)).run Try.prog w = .ok x1 w := fun _ _ _ _ _ => by kernel_rfl
  have i2 : ∀ (x0 x1 x2 x3 : Value) (w : World), (Instr.index 58 (.agg #[x0, x1, x2, x3]) (.int .i64 2)).run Try.prog w = .ok x2 w := fun _ _ _ _ _ => by kernel_rfl
  have i3 : ∀ (x0 x1 x2 x3 : Value) (w : World), (Instr.index 58 (.agg #[x0, x1, x2, x3]) (.int .i64 3)).run Try.prog w = .ok x3 w := fun _ _ _ _ _ => by kernel_rfl
  rcases h with ⟨rfl, rfl, rfl⟩ | ⟨rfl, rfl, rfl⟩ | ⟨rfl, rfl, rfl⟩ | ⟨rfl, rfl, rfl⟩
  · have HW := Lib.hid (hw _ 0 rfl (by decide +kernel))
    clear hw
    go_enter Try.func30, Try.ntmps30
    go_wp2_with (go_at_call 36; refine (HW.out _).mono ?_; rintro e w1 ⟨rfl, ⟨⟨m, rfl⟩⟩⟩)
    go_quiet (fail)
    go_wp2
    go_ret3
    exact ⟨rfl, by repeat (first | exact Below.refl _ _ | apply below_alloc | apply pw_below_drewN | apply below_drew1)⟩
  · have HW := Lib.hid (hw _ 1 rfl (by decide +kernel))
    clear hw
    go_enter Try.func30, Try.ntmps30
    go_wp2_with (go_at_call 36; refine (HW.out _).mono ?_; rintro e w1 ⟨rfl, ⟨⟨m, rfl⟩⟩⟩)
    go_quiet (fail)
    go_wp2
    go_ret3
    exact ⟨rfl, by repeat (first | exact Below.refl _ _ | apply below_alloc | apply pw_below_drewN | apply below_drew1)⟩
  · have HW := Lib.hid (hw _ 2 rfl (by decide +kernel))
    clear hw
    go_enter Try.func30, Try.ntmps30
    go_wp2_with (go_at_call 36; refine (HW.out _).mono ?_; rintro e w1 ⟨rfl, ⟨⟨m, rfl⟩⟩⟩)
    go_quiet (fail)
    go_wp2
    go_ret3
    exact ⟨rfl, by repeat (first | exact Below.refl _ _ | apply below_alloc | apply pw_below_drewN | apply below_drew1)⟩
  · have HW := Lib.hid (hw _ 3 rfl (by decide +kernel))
    clear hw
    go_enter Try.func30, Try.ntmps30
    go_wp2_with (go_at_call 36; refine (HW.out _).mono ?_; rintro e w1 ⟨rfl, ⟨⟨m, rfl⟩⟩⟩)
    go_quiet (fail)
    go_wp2
    go_ret3
    exact ⟨rfl, by repeat (first | exact Below.refl _ _ | apply below_alloc | apply pw_below_drewN | apply below_drew1)⟩
set_option maxHeartbeats 2000000 in
set_option maxRecDepth 100000 in
theorem impl_term_measure.at_turn (c : Int) (A : Option Addr) (n : Nat) (l : List S39) (w : World) (hr : Kd.C k39 w A l.length l) (hlen : 0 < l.length) (hne : ((l.length : Int) == 0) = false) (x y z : Int)
    (ih : ∀ A1 c1 w', Kd.C k39 w' A1 (rd_T39 l 0).f1.length (rd_T39 l 0).f1 → (rd_T39 l 0).f1.length ≤ c1 → Calls Try.prog 30 #[.agg #[.int .u8 (rd_T39 l 0).f0, .slice A1 (rd_T39 l 0).f1.length c1]] w' fun e w'' => e = .returned (.tuple #[.int .i64 x, .int .i64 y, .int .i64 z]) ∧ Below w'.heap.size w' w'')
    (h1 : (c == 64) = true) :
    Calls Try.prog 30 #[.agg #[.int .u8 c, .slice A l.length n]] w fun e w' => e = .returned (.tuple #[.int .i64 (wrap64 (-y)), .int .i64 x, .int .i64 z]) ∧ Below w.heap.size w w' := by
  have hu34 := Try.underlying39
  have hlI : (0 : Int) < l.length := by omega
  obtain ⟨ad, A1, c1, rfl, e0, e1, hl1, hC1⟩ := at_T39 hr 0 (by omega) (by omega)
  have IH := Lib.hid ih
  have HC := Lib.hid hC1
  have HL := Lib.hid hl1
  clear ih hr hC1 hl1
  rw [show ((0 : Int)).toNat = 0 from rfl, show 0 * 2 = 0 from rfl, Addr.add_zero'] at e0 e1
  have hlt : ad.block < w.heap.size := World.block_lt_of_cell? w _ e0
  have hb0 := Lib.hid (below_alloc (Below.refl w.heap.size w) (.cells #[.int .u8 c, .slice (some ad) l.length n] 39))
  go_enter Try.func30, Try.ntmps30
  go_wp2_with fail
  refine (IH.out A1 c1 _ (Kd.C_below HC.out hb0.out) HL.out).mono ?_
  rintro e w1 ⟨rfl, hb⟩
  have hb1 := Lib.hid (below_step hb0.out hb)
  have HK := Lib.hid (blk_below (heap_alloc_new w (.cells #[.int .u8 c, .slice (some ad) l.length n] 39)) hb)
  have p0 : w1.cell? ⟨w.heap.size, 0, none⟩ = some (.int .u8 c) := blk_cell HK.out 0
  have p1 : w1.cell? ⟨w.heap.size, 1, none⟩ = some (.slice (some ad) l.length n) := blk_cell HK.out 1
  clear hb e0 e1
  go_wp2_with fail
  go_ret3
  exact ⟨rfl, hb1.out⟩
set_option maxHeartbeats 2000000 in
set_option maxRecDepth 100000 in
theorem impl_term_measure.at_back (c : Int) (A : Option Addr) (n : Nat) (l : List S39) (w : World) (hr : Kd.C k39 w A l.length l) (hlen : 0 < l.length) (hne : ((l.length : Int) == 0) = false) (x y z : Int)
    (ih : ∀ A1 c1 w', Kd.C k39 w' A1 (rd_T39 l 0).f1.length (rd_T39 l 0).f1 → (rd_T39 l 0).f1.length ≤ c1 → Calls Try.prog 30 #[.agg #[.int .u8 (rd_T39 l 0).f0, .slice A1 (rd_T39 l 0).f1.length c1]] w' fun e w'' => e = .returned (.tuple #[.int .i64 x, .int .i64 y, .int .i64 z]) ∧ Below w'.heap.size w' w'')
    (h1 : (c == 64) = false) (h2 : (c == 45) = true) :
    Calls Try.prog 30 #[.agg #[.int .u8 c, .slice A l.length n]] w fun e w' => e = .returned (.tuple #[.int .i64 (wrap64 (-x)), .int .i64 (wrap64 (-y)), .int .i64 (wrap64 (-z))]) ∧ Below w.heap.size w w' := by
  have hu34 := Try.underlying39
  have hlI : (0 : Int) < l.length := by omega
  obtain ⟨ad, A1, c1, rfl, e0, e1, hl1, hC1⟩ := at_T39 hr 0 (by omega) (by omega)
  have IH := Lib.hid ih
  have HC := Lib.hid hC1
  have HL := Lib.hid hl1
  clear ih hr hC1 hl1
  rw [show ((0 : Int)).toNat = 0 from rfl, show 0 * 2 = 0 from rfl, Addr.add_zero'] at e0 e1
  have hlt : ad.block < w.heap.size := World.block_lt_of_cell? w _ e0
  have hb0 := Lib.hid (below_alloc (Below.refl w.heap.size w) (.cells #[.int .u8 c, .slice (some ad) l.length n] 39))
  go_enter Try.func30, Try.ntmps30
  go_wp2_with fail
  refine (IH.out A1 c1 _ (Kd.C_below HC.out hb0.out) HL.out).mono ?_
  rintro e w1 ⟨rfl, hb⟩
  have hb1 := Lib.hid (below_step hb0.out hb)
  have HK := Lib.hid (blk_below (heap_alloc_new w (.cells #[.int .u8 c, .slice (some ad) l.length n] 39)) hb)
  have p0 : w1.cell? ⟨w.heap.size, 0, none⟩ = some (.int .u8 c) := blk_cell HK.out 0
  have p1 : w1.cell? ⟨w.heap.size, 1, none⟩ = some (.slice (some ad) l.length n) := blk_cell HK.out 1
  clear hb e0 e1
  go_wp2_with fail
  go_ret3
  exact ⟨rfl, hb1.out⟩
set_option maxHeartbeats 2000000 in
set_option maxRecDepth 100000 in
theorem impl_term_measure.at_many (c : Int) (A : Option Addr) (n : Nat) (l : List S39) (w : World) (hr : Kd.C k39 w A l.length l) (hlen : 0 < l.length) (hne : ((l.length : Int) == 0) = false) (x y z : Int)
    (ih : ∀ A1 c1 w', Kd.C k39 w' A1 (rd_T39 l 0).f1.length (rd_T39 l 0).f1 → (rd_T39 l 0).f1.length ≤ c1 → Calls Try.prog 30 #[.agg #[.int .u8 (rd_T39 l 0).f0, .slice A1 (rd_T39 l 0).f1.length c1]] w' fun e w'' => e = .returned (.tuple #[.int .i64 x, .int .i64 y, .int .i64 z]) ∧ Below w'.heap.size w' w'')
    (h1 : (c == 64) = false) (h2 : (c == 45) = false) (h3 : (c == 40) = false) :
    Calls Try.prog 30 #[.agg #[.int .u8 c, .slice A l.length n]] w fun e w' => e = .returned (.tuple #[.int .i64 (wrap64 (((c - 48) % 256) * x)), .int .i64 (wrap64 (((c - 48) % 256) * y)), .int .i64 (wrap64 (((c - 48) % 256) * z))]) ∧ Below w.heap.size w w' := by
  have hu34 := Try.underlying39
  have hw8_ : ∀ n : Int, IntKind.u8.wrap n = n % 256 := IntKind.wrap_u8
  have hw64_ : ∀ n : Int, wrap64 (n % 256) = n % 256 := fun n => by unfold wrap64; omega
  have hlI : (0 : Int) < l.length := by omega
  obtain ⟨ad, A1, c1, rfl, e0, e1, hl1, hC1⟩ := at_T39 hr 0 (by omega) (by omega)
  have IH := Lib.hid ih
  have HC := Lib.hid hC1
  have HL := Lib.hid hl1
  clear ih hr hC1 hl1
  rw [show ((0 : Int)).toNat = 0 from rfl, show 0 * 2 = 0 from rfl, Addr.add_zero'] at e0 e1
  have hlt : ad.block < w.heap.size := World.block_lt_of_cell? w _ e0
  have hb0 := Lib.hid (below_alloc (Below.refl w.heap.size w) (.cells #[.int .u8 c, .slice (some ad) l.length n] 39))
  go_enter Try.func30, Try.ntmps30
  go_wp2_with fail
  refine (IH.out A1 c1 _ (Kd.C_below HC.out hb0.out) HL.out).mono ?_
  rintro e w1 ⟨rfl, hb⟩
  have hb1 := Lib.hid (below_step hb0.out hb)
  have HK := Lib.hid (blk_below (heap_alloc_new w (.cells #[.int .u8 c, .slice (some ad) l.length n] 39)) hb)
  have p0 : w1.cell? ⟨w.heap.size, 0, none⟩ = some (.int .u8 c) := blk_cell HK.out 0
  have p1 : w1.cell? ⟨w.heap.size, 1, none⟩ = some (.slice (some ad) l.length n) := blk_cell HK.out 1
  clear hb e0 e1
  go_wp2_with fail
  go_ret3
  exact ⟨rfl, hb1.out⟩
set_option maxHeartbeats 2000000 in
set_option maxRecDepth 100000 in
theorem impl_term_measure.at_both (c : Int) (A : Option Addr) (n : Nat) (l : List S39) (w : World) (hr : Kd.C k39 w A l.length l) (hlen : 1 < l.length) (hne : ((l.length : Int) == 0) = false) (x y z : Int)
    (ih : ∀ A1 c1 w', Kd.C k39 w' A1 (rd_T39 l 0).f1.length (rd_T39 l 0).f1 → (rd_T39 l 0).f1.length ≤ c1 → Calls Try.prog 30 #[.agg #[.int .u8 (rd_T39 l 0).f0, .slice A1 (rd_T39 l 0).f1.length c1]] w' fun e w'' => e = .returned (.tuple #[.int .i64 x, .int .i64 y, .int .i64 z]) ∧ Below w'.heap.size w' w'')
    (x2 y2 z2 : Int)
    (ih2 : ∀ A1 c1 w', Kd.C k39 w' A1 (rd_T39 l 1).f1.length (rd_T39 l 1).f1 → (rd_T39 l 1).f1.length ≤ c1 → Calls Try.prog 30 #[.agg #[.int .u8 (rd_T39 l 1).f0, .slice A1 (rd_T39 l 1).f1.length c1]] w' fun e w'' => e = .returned (.tuple #[.int .i64 x2, .int .i64 y2, .int .i64 z2]) ∧ Below w'.heap.size w' w'')
    (h1 : (c == 64) = false) (h2 : (c == 45) = false) (h3 : (c == 40) = true) :
    Calls Try.prog 30 #[.agg #[.int .u8 c, .slice A l.length n]] w fun e w' => e = .returned (.tuple #[.int .i64 (wrap64 (x + x2)), .int .i64 (wrap64 (y + y2)), .int .i64 (wrap64 (wrap64 (wrap64 (z + z2) + wrap64 (x * y2)) - wrap64 (y * x2)))]) ∧ Below w.heap.size w w' := by
  have hu34 := Try.underlying39
  have hlI : (0 : Int) < l.length := by omega
  obtain ⟨ad, A1, c1, rfl, e0, e1, hl1, hC1⟩ := at_T39 hr 0 (by omega) (by omega)
  obtain ⟨ad2, A2, c2, ee, g0, g1, hl2, hC2⟩ := at_T39 hr 1 (by omega) (by omega)
  cases ee
  have hlt2 := World.block_lt_of_cell? w _ g0
  have hlt3 : ad.block < w.heap.size := hlt2
  rw [show ((1 : Int)).toNat = 1 from rfl, show 1 * 2 = 2 from rfl] at g0 g1
  have hlJ : (1 : Int) < l.length := by omega
  have IH2 := Lib.hid ih2
  have HC2 := Lib.hid hC2
  have HL2 := Lib.hid hl2
  clear ih2 hC2 hl2
  have IH := Lib.hid ih
  have HC := Lib.hid hC1
  have HL := Lib.hid hl1
  clear ih hr hC1 hl1
  rw [show ((0 : Int)).toNat = 0 from rfl, show 0 * 2 = 0 from rfl, Addr.add_zero'] at e0 e1
  have hlt : ad.block < w.heap.size := World.block_lt_of_cell? w _ e0
  have hb0 := Lib.hid (below_alloc (Below.refl w.heap.size w) (.cells #[.int .u8 c, .slice (some ad) l.length n] 39))
  go_enter Try.func30, Try.ntmps30
  go_wp2_with fail
  refine (IH.out A1 c1 _ (Kd.C_below HC.out hb0.out) HL.out).mono ?_
  rintro e w1 ⟨rfl, hb⟩
  have hb1 := Lib.hid (below_step hb0.out hb)
  have HK := Lib.hid (blk_below (heap_alloc_new w (.cells #[.int .u8 c, .slice (some ad) l.length n] 39)) hb)
  have p0 : w1.cell? ⟨w.heap.size, 0, none⟩ = some (.int .u8 c) := blk_cell HK.out 0
  have p1 : w1.cell? ⟨w.heap.size, 1, none⟩ = some (.slice (some ad) l.length n) := blk_cell HK.out 1
  replace g0 := (hb1.out.cell hlt2).trans g0
  replace g1 := (hb1.out.cell (p := ⟨(ad.add 2).block, (ad.add 2).off + 1, none⟩) hlt2).trans g1
  have k0 : w1.cell? ⟨ad.block, ad.off + 2, none⟩ = some (.int .u8 (rd_T39 l 1).f0) := g0
  have k1 : w1.cell? ⟨ad.block, ad.off + 2 + 1, none⟩ = some (.slice A2 (rd_T39 l 1).f1.length c2) := g1
  clear hb e0 e1 g0 g1
  go_wp2_with fail
  refine (IH2.out A2 c2 _ (Kd.C_below HC2.out hb1.out) HL2.out).mono ?_
  rintro e w2 ⟨rfl, hb⟩
  have hb2 := Lib.hid (below_step hb1.out hb)
  clear hb k0 k1 p0 p1
  go_wp2_with fail
  go_ret3
  exact ⟨rfl, hb2.out⟩
theorem impl_term_measure.calls (k : Nat) : ∀ (a0_0 : Int) (A0_1 : Option Addr) (c0_1 : Nat) (l0_1 : List S39) (r1 : Int) (r2 : Int) (r3 : Int) (w : World) (hr0_1 : Kd.C k39 w A0_1 l0_1.length l0_1) (hc0_1 : l0_1.length ≤ c0_1) (h : impl_term_measure.f k a0_0 l0_1 = some (r1, r2, r3)),
    Calls Try.prog 30 #[.agg #[.int .u8 a0_0, .slice A0_1 l0_1.length c0_1]] w fun e w' => e = .returned (.tuple #[.int .i64 r1, .int .i64 r2, .int .i64 r3]) ∧ Below w.heap.size w w' := by
  induction k with
  | zero => intro c A n l r1 r2 r3 w hr hc h; simp [impl_term_measure.f] at h
  | succ k ih =>
    intro c A n l r1 r2 r3 w hr hc h
    simp only [impl_term_measure.f] at h
    by_cases h0 : (l.length : Int) = 0
    · rw [if_pos h0] at h
      have hl : l.length = 0 := by omega
      rw [hl]
      have : ∃ x y, some (x, y, (0 : Int)) = some (r1, r2, r3) ∧ ((c = 101 ∧ x = 1 ∧ y = 0) ∨ (c = 110 ∧ x = 0 ∧ y = 1) ∨ (c = 119 ∧ x = -1 ∧ y = 0) ∨ (c = 115 ∧ x = 0 ∧ y = -1)) := by
        split at h
        · next hh => exact ⟨1, 0, h, .inl ⟨hh, rfl, rfl⟩⟩
        · split at h
          · next hh => exact ⟨0, 1, h, .inr (.inl ⟨hh, rfl, rfl⟩)⟩
          · split at h
            · next hh => exact ⟨-1, 0, h, .inr (.inr (.inl ⟨hh, rfl, rfl⟩))⟩
            · split at h
              · next hh => exact ⟨0, -1, h, .inr (.inr (.inr ⟨hh, rfl, rfl⟩))⟩
              · simp at h
      obtain ⟨x, y, he, hx⟩ := this
      simp only [Option.some.injEq, Prod.mk.injEq] at he
      obtain ⟨rfl, rfl, rfl⟩ := he
      exact impl_term_measure.at_leaf c A n w x y hx
    · rw [if_neg h0] at h
      have hlen : 0 < l.length := by omega
      have hne : ((l.length : Int) == 0) = false := by simpa using h0
      obtain ⟨⟨x, y, z⟩, h1, h⟩ := Option.bind_eq_some_iff.mp h
      simp only at h
      have ih1 := fun A1 c1 w' (h2 : Kd.C k39 w' A1 (rd_T39 l 0).f1.length (rd_T39 l 0).f1) (h3 : (rd_T39 l 0).f1.length ≤ c1) => ih (rd_T39 l 0).f0 A1 c1 (rd_T39 l 0).f1 x y z w' h2 h3 h1
      by_cases c1 : c = 64
      · rw [if_pos c1] at h
        simp only [Option.some.injEq, Prod.mk.injEq] at h
        obtain ⟨rfl, rfl, rfl⟩ := h
        exact impl_term_measure.at_turn c A n l w hr hlen hne x y z ih1 (by simp [c1])
      · rw [if_neg c1] at h
        by_cases c2 : c = 45
        · rw [if_pos c2] at h
          simp only [Option.some.injEq, Prod.mk.injEq] at h
          obtain ⟨rfl, rfl, rfl⟩ := h
          exact impl_term_measure.at_back c A n l w hr hlen hne x y z ih1 (by simp [c1]) (by simp [c2])
        · rw [if_neg c2] at h
          by_cases c3 : c = 40
          · rw [if_pos c3] at h
            by_cases c4 : 1 < (l.length : Int)
            · rw [if_pos c4] at h
              obtain ⟨⟨x2, y2, z2⟩, h4, h⟩ := Option.bind_eq_some_iff.mp h
              simp only [Option.some.injEq, Prod.mk.injEq] at h
              obtain ⟨rfl, rfl, rfl⟩ := h
              exact impl_term_measure.at_both c A n l w hr (by omega) hne x y z ih1 x2 y2 z2 (fun A1 c1 w' h2 h3 => ih (rd_T39 l 1).f0 A1 c1 (rd_T39 l 1).f1 x2 y2 z2 w' h2 h3 h4) (by simp [c1]) (by simp [c2]) (by simp [c3])
            · rw [if_neg c4] at h
              simp at h
          · rw [if_neg c3] at h
            simp only [Option.some.injEq, Prod.mk.injEq] at h
            obtain ⟨rfl, rfl, rfl⟩ := h
            exact impl_term_measure.at_many c A n l w hr hlen hne x y z ih1 (by simp [c1]) (by simp [c2]) (by simp [c3])

/-! ### impl_TermEnd: function 19 -/
def impl_TermEnd.f (k : Nat) (a0 : ByteArray) : Option (Int × Int × Bool) := (impl_walkable.f k a0).bind fun bt176 => (if bt176.2.2 = true then ((impl_term_measure.f k bt176.1 bt176.2.1).bind fun bt182 => (some (bt182.1, bt182.2.1, true))) else (some (0, 0, false)))
theorem impl_TermEnd.mono : ∀ a0 k, LeO (impl_TermEnd.f k a0) (impl_TermEnd.f (k + 1) a0) := by
  intro a0 k
  unfold impl_TermEnd.f
  repeat' first
      | (with_reducible exact impl_term_measure.mono _ _ _)
      | (with_reducible exact impl_walkable.mono _ _)
      | (with_reducible exact LeO.refl _)
      | (with_reducible exact LeO.none _)
      | (with_reducible refine LeO.ite ?_ ?_)
      | (with_reducible refine LeO.bind ?_ (fun _ => ?_))
      | exact impl_term_measure.mono _ _ _
      | exact impl_walkable.mono _ _
      | exact LeO.none _
      | refine LeO.ite ?_ ?_
      | refine LeO.bind ?_ (fun _ => ?_)
set_option maxHeartbeats 8000000 in
set_option maxRecDepth 100000 in
theorem impl_TermEnd.calls (k : Nat) (a0 : ByteArray) (r1 : Int) (r2 : Int) (r3 : Bool) (w : World) (h : impl_TermEnd.f k a0 = some (r1, r2, r3)) :
    Calls Try.prog 19 #[.string a0] w fun e w' => e = .returned (.tuple #[.int .i64 r1, .int .i64 r2, .bool r3]) ∧ Below w.heap.size w w' := by
  have hu39 := Try.underlying39
  have HB := Aside0.mk (Below.refl w.heap.size w)
  have H : ((impl_walkable.f k a0).bind fun bt176 => (if bt176.2.2 = true then ((impl_term_measure.f k bt176.1 bt176.2.1).bind fun bt182 => (some (bt182.1, bt182.2.1, true))) else (some (0, 0, false)))) = some (r1, r2, r3) := h
  clear h
  replace H := Option.bind_eq_some_iff.mp H
  obtain ⟨⟨t176, t177, t180⟩, A20, H⟩ := H
  replace H : (if t180 = true then ((impl_term_measure.f k t176 t177).bind fun bt182 => (some (bt182.1, bt182.2.1, true))) else (some (0, 0, false))) = some (r1, r2, r3) := H
  have A2 := Aside0.mk A20
  clear A20
  by_cases c3 : t180 = true
  · subst c3
    have H1 : ((impl_term_measure.f k t176 t177).bind fun bt182 => (some (bt182.1, bt182.2.1, true))) = some (r1, r2, r3) := by rw [if_pos rfl] at H; exact H
    clear H
    have H := H1
    clear H1
    replace H := Option.bind_eq_some_iff.mp H
    obtain ⟨⟨t182, t183, t184⟩, A40, H⟩ := H
    replace H : (some (t182, t183, true)) = some (r1, r2, r3) := H
    have A4 := Aside0.mk A40
    clear A40
    simp only [Option.some.injEq, Prod.mk.injEq] at H
    obtain ⟨rfl, rfl, rfl⟩ := H
    go_enter Try.func19, Try.ntmps19
    go_wp2_with (first | ((with_reducible refine gate_callee (f := 24) rfl ?_); refine goesL_ (some 12) rfl rfl Try.func24 (by kernel_rfl) rfl #[.string a0] rfl (by (try simp only [List.map_toArray, List.map_cons, List.map_nil]); first | done | rfl | (simp only [List.length_drop, List.length_take]; rfl)) ?_; (with_reducible refine (impl_walkable.calls k a0 t176 t177 true _ A2.out).mono ?_); rintro e w5 ⟨v178, rfl, ho0, hb⟩; refine ⟨_, rfl, ?_⟩; have n0_ := Aside0.mk (Kd.R_lower ho0 (below_size (by repeat (first | (with_reducible first | exact HB.out | apply below_alloc | apply pw_below_drewN | apply below_drew1) | exact HB.out)))); have n1_ := Aside0.mk (below_step (by repeat (first | (with_reducible first | exact HB.out | apply below_alloc | apply pw_below_drewN | apply below_drew1) | exact HB.out)) hb); clear HB; have HO179 := n0_; have HB := n1_; clear n0_ n1_; (try clear hb); (try clear hb2); (try clear hk); (try clear hi); (try clear ho0)) | ((with_reducible refine gate_dst (N := 5) rfl ?_); refine box_event ?hg (N := 5) ?hd (cs := #[.int .u8 0, .slice none 0 0]) (t := 39) ?hr ?_; (case hd => rfl); (case hg => rfl); (case hr => first | (go_simp; done) | (go_simp; rfl)); intro gb181 hg w6 hbox hb; have n0_ := Aside0.mk (Kd.R_below (Kd.R_elderB (by (with_reducible repeat (first | apply Kd.R_alloc | apply Kd.R_drewN | apply Kd.R_drew)); exact HO179.out) gb181 (Nat.le_of_eq hg.symm)) hb); have n1_ := Aside0.mk (below_step (by repeat (first | (with_reducible first | exact HB.out | apply below_alloc | apply pw_below_drewN | apply below_drew1) | exact HB.out)) hb); have n2_ := Aside0.mk (hbox); have n3_ := Aside0.mk ((by rw [hg]; exact (below_size (by repeat (first | (with_reducible first | exact HB.out | apply below_alloc | apply pw_below_drewN | apply below_drew1) | exact HB.out))) : w.heap.size ≤ gb181)); have n4_ := Aside0.mk ((by rw [hg]; exact (below_size (by repeat (first | (with_reducible first | exact HB.out | apply below_alloc | apply pw_below_drewN | apply below_drew1) | exact HB.out))) : w.heap.size ≤ gb181)); clear HO179; clear HB; have HO179 := n0_; have HB := n1_; have BK181 := n2_; have GW181 := n3_; have GE181 := n4_; clear n0_ n1_ n2_ n3_ n4_; clear hb hbox hg; have hcz7_0 : w6.cell? ⟨gb181, 0, none⟩ = some (.int .u8 0) := (blk_cell BK181.out 0).trans rfl; have hcz7_1 : w6.cell? ⟨gb181, 1, none⟩ = some (.slice none 0 0) := (blk_cell BK181.out 1).trans rfl; have hfz7_0 := blk_frozen BK181.out 0; have hfz7_1 := blk_frozen BK181.out 1; obtain ⟨Ao8, co8, eo8⟩ := Kd.R_slice HO179.out; subst eo8) | ((with_reducible refine gate_callee (f := 30) rfl ?_); refine goesL_ (some 19) rfl rfl Try.func30 (by kernel_rfl) rfl #[.agg #[.int .u8 t176, .slice Ao8 t177.length co8]] rfl (by (try simp only [List.map_toArray, List.map_cons, List.map_nil]); first | done | rfl | (simp only [List.length_drop, List.length_take]; rfl)) ?_; (with_reducible refine (impl_term_measure.calls k t176 _ _ t177 t182 t183 t184 _ ?side1 ?side2 A4.out).mono ?_); (case side1 => refine (Kd.R_reads' (e := 39) (base := w.heap.size) (ok := fun k_ => (True ∧ k_ ≠ gb181)) (n := t177.length) (c := co8) ?_).2.2; exact (by (with_reducible repeat (first | apply Kd.R_alloc | apply Kd.R_drewN | apply Kd.R_drew)); exact (Kd.R_mono (Kd.R_far (p := ⟨gb181, 1, none⟩) (Kd.R_far (p := ⟨gb181, 0, none⟩) (Kd.R_mono HO179.out (fun k_ hk => (⟨hk, hk.2⟩ : _ ∧ k_ ≠ gb181))) (fun _ hk => hk.2) (.int .u8 t176)) (fun _ hk => hk.2) (.slice Ao8 t177.length co8)) (fun _ h_ => h_.1)))); (case side2 => exact (Kd.R_reads' HO179.out).2.1); rintro e w9 ⟨rfl, hb⟩; refine ⟨_, rfl, ?_⟩; have n0_ := Aside0.mk (Kd.R_below (by (with_reducible repeat (first | apply Kd.R_alloc | apply Kd.R_drewN | apply Kd.R_drew)); exact (Kd.R_mono (Kd.R_far (p := ⟨gb181, 1, none⟩) (Kd.R_far (p := ⟨gb181, 0, none⟩) (Kd.R_mono HO179.out (fun k_ hk => (⟨hk, hk.2⟩ : _ ∧ k_ ≠ gb181))) (fun _ hk => hk.2) (.int .u8 t176)) (fun _ hk => hk.2) (.slice Ao8 t177.length co8)) (fun _ h_ => h_.1))) hb); have n1_ := Aside0.mk (blk_below (g := gb181) (o := .cells #[.int .u8 t176, .slice Ao8 t177.length co8] 39 (0, 0)) (by (with_reducible repeat (first | refine blk_drewN ?_ _ | refine blk_drew ?_ | refine blk_alloc ?_ _)); refine blk_put (cs := #[.int .u8 t176, .slice none 0 0]) ?_ 1 _ rfl; (with_reducible repeat (first | refine blk_drewN ?_ _ | refine blk_drew ?_ | refine blk_alloc ?_ _)); refine blk_put (cs := #[.int .u8 0, .slice none 0 0]) ?_ 0 _ rfl; (with_reducible repeat (first | refine blk_drewN ?_ _ | refine blk_drew ?_ | refine blk_alloc ?_ _)); exact BK181.out) hb); have n2_ := Aside0.mk (below_step (by repeat (first | (with_reducible first | exact HB.out | apply below_alloc | apply pw_below_drewN | apply below_drew1 | refine below_set ?_ GE181.out) | exact HB.out)) hb); clear HO179; clear BK181; clear HB; have HO179 := n0_; have BK181 := n1_; have HB := n2_; clear n0_ n1_ n2_; (try clear hb); (try clear hb2); (try clear hk); (try clear hi)))
    go_ret3
    exact ⟨by first | rfl | (simp [errW_none, errW_some] <;> rfl) | (simp [*, errW_none, errW_some] <;> rfl), by repeat (first | (with_reducible first | exact HB.out | apply below_alloc | apply pw_below_drewN | apply below_drew1 | refine below_set ?_ GE181.out) | exact HB.out)⟩
  · replace c3 := Bool.eq_false_iff.mpr c3
    subst c3
    have H1 : (some (0, 0, false)) = some (r1, r2, r3) := by rw [if_neg (show ¬ (false = true) by decide)] at H; exact H
    clear H
    have H := H1
    clear H1
    simp only [Option.some.injEq, Prod.mk.injEq] at H
    obtain ⟨rfl, rfl, rfl⟩ := H
    go_enter Try.func19, Try.ntmps19
    go_wp2_with (first | ((with_reducible refine gate_callee (f := 24) rfl ?_); refine goesL_ (some 12) rfl rfl Try.func24 (by kernel_rfl) rfl #[.string a0] rfl (by (try simp only [List.map_toArray, List.map_cons, List.map_nil]); first | done | rfl | (simp only [List.length_drop, List.length_take]; rfl)) ?_; (with_reducible refine (impl_walkable.calls k a0 t176 t177 false _ A2.out).mono ?_); rintro e w10 ⟨v178, rfl, ho0, hb⟩; refine ⟨_, rfl, ?_⟩; have n0_ := Aside0.mk (Kd.R_lower ho0 (below_size (by repeat (first | (with_reducible first | exact HB.out | apply below_alloc | apply pw_below_drewN | apply below_drew1) | exact HB.out)))); have n1_ := Aside0.mk (below_step (by repeat (first | (with_reducible first | exact HB.out | apply below_alloc | apply pw_below_drewN | apply below_drew1) | exact HB.out)) hb); clear HB; have HO179 := n0_; have HB := n1_; clear n0_ n1_; (try clear hb); (try clear hb2); (try clear hk); (try clear hi); (try clear ho0)) | ((with_reducible refine gate_dst (N := 5) rfl ?_); refine box_event ?hg (N := 5) ?hd (cs := #[.int .u8 0, .slice none 0 0]) (t := 39) ?hr ?_; (case hd => rfl); (case hg => rfl); (case hr => first | (go_simp; done) | (go_simp; rfl)); intro gb181 hg w11 hbox hb; have n0_ := Aside0.mk (Kd.R_below (Kd.R_elderB (by (with_reducible repeat (first | apply Kd.R_alloc | apply Kd.R_drewN | apply Kd.R_drew)); exact HO179.out) gb181 (Nat.le_of_eq hg.symm)) hb); have n1_ := Aside0.mk (below_step (by repeat (first | (with_reducible first | exact HB.out | apply below_alloc | apply pw_below_drewN | apply below_drew1) | exact HB.out)) hb); have n2_ := Aside0.mk (hbox); have n3_ := Aside0.mk ((by rw [hg]; exact (below_size (by repeat (first | (with_reducible first | exact HB.out | apply below_alloc | apply pw_below_drewN | apply below_drew1) | exact HB.out))) : w.heap.size ≤ gb181)); have n4_ := Aside0.mk ((by rw [hg]; exact (below_size (by repeat (first | (with_reducible first | exact HB.out | apply below_alloc | apply pw_below_drewN | apply below_drew1) | exact HB.out))) : w.heap.size ≤ gb181)); clear HO179; clear HB; have HO179 := n0_; have HB := n1_; have BK181 := n2_; have GW181 := n3_; have GE181 := n4_; clear n0_ n1_ n2_ n3_ n4_; clear hb hbox hg; have hcz12_0 : w11.cell? ⟨gb181, 0, none⟩ = some (.int .u8 0) := (blk_cell BK181.out 0).trans rfl; have hcz12_1 : w11.cell? ⟨gb181, 1, none⟩ = some (.slice none 0 0) := (blk_cell BK181.out 1).trans rfl; have hfz12_0 := blk_frozen BK181.out 0; have hfz12_1 := blk_frozen BK181.out 1; obtain ⟨Ao13, co13, eo13⟩ := Kd.R_slice HO179.out; subst eo13))
    go_ret3
    exact ⟨by first | rfl | (simp [errW_none, errW_some] <;> rfl) | (simp [*, errW_none, errW_some] <;> rfl), by repeat (first | (with_reducible first | exact HB.out | apply below_alloc | apply pw_below_drewN | apply below_drew1 | refine below_set ?_ GE181.out) | exact HB.out)⟩

/-! ### laws_FnExactTermEnd: function 8 -/
def laws_FnExactTermEnd.f (k : Nat) (a0 : ByteArray) : Option (Bool) := if (a0.size : Int) > 1048576 then (some true) else ((spec_TermEnd.f k a0).bind fun bt185 => ((impl_TermEnd.f k a0).bind fun bt188 => (if bt188.1 = bt185.1 then (if bt188.2.1 = bt185.2.1 then (if (bt188.2.2 != bt185.2.2) = true then (some false) else (some true)) else (some false)) else (some false))))
theorem laws_FnExactTermEnd.mono : ∀ a0 k, LeO (laws_FnExactTermEnd.f k a0) (laws_FnExactTermEnd.f (k + 1) a0) := by
  intro a0 k
  unfold laws_FnExactTermEnd.f
  repeat' first
      | (with_reducible exact impl_TermEnd.mono _ _)
      | (with_reducible exact spec_TermEnd.mono _ _)
      | (with_reducible exact LeO.refl _)
      | (with_reducible exact LeO.none _)
      | (with_reducible refine LeO.ite ?_ ?_)
      | (with_reducible refine LeO.bind ?_ (fun _ => ?_))
      | exact impl_TermEnd.mono _ _
      | exact spec_TermEnd.mono _ _
      | exact LeO.none _
      | refine LeO.ite ?_ ?_
      | refine LeO.bind ?_ (fun _ => ?_)
set_option maxHeartbeats 8000000 in
set_option maxRecDepth 100000 in
theorem laws_FnExactTermEnd.calls (k : Nat) (a0 : ByteArray) (r : Bool) (w : World) (h : laws_FnExactTermEnd.f k a0 = some r) :
    Calls Try.prog 8 #[.string a0] w fun e w' => e = .returned (.bool r) ∧ Below w.heap.size w w' := by
  have HB := Aside0.mk (Below.refl w.heap.size w)
  have H : (if (a0.size : Int) > 1048576 then (some true) else ((spec_TermEnd.f k a0).bind fun bt185 => ((impl_TermEnd.f k a0).bind fun bt188 => (if bt188.1 = bt185.1 then (if bt188.2.1 = bt185.2.1 then (if (bt188.2.2 != bt185.2.2) = true then (some false) else (some true)) else (some false)) else (some false))))) = some r := h
  clear h
  by_cases c2 : (a0.size : Int) > 1048576
  · rw [if_pos c2] at H
    have c2b0 : decide (1048576 < (a0.size : Int)) = true := decide_eq_true c2
    have c2b1 : decide (1048576 < a0.size) = true := decide_eq_true (by omega)
    clear c2
    obtain rfl := Option.some.inj H
    go_enter Try.func8, Try.ntmps8
    go_wp2
    go_ret
    exact ⟨by first | rfl | (simp [errW_none, errW_some] <;> rfl) | (simp [*, errW_none, errW_some] <;> rfl), by repeat (first | (with_reducible first | exact HB.out | apply below_alloc | apply pw_below_drewN | apply below_drew1) | exact HB.out)⟩
  · rw [if_neg c2] at H
    have c2b0 : decide (1048576 < (a0.size : Int)) = false := decide_eq_false c2
    have c2b1 : decide (1048576 < a0.size) = false := decide_eq_false (by omega)
    clear c2
    replace H := Option.bind_eq_some_iff.mp H
    obtain ⟨⟨t185, t186, t187⟩, A30, H⟩ := H
    replace H : ((impl_TermEnd.f k a0).bind fun bt188 => (if bt188.1 = t185 then (if bt188.2.1 = t186 then (if (bt188.2.2 != t187) = true then (some false) else (some true)) else (some false)) else (some false))) = some r := H
    have A3 := Aside0.mk A30
    clear A30
    replace H := Option.bind_eq_some_iff.mp H
    obtain ⟨⟨t188, t189, t190⟩, A40, H⟩ := H
    replace H : (if t188 = t185 then (if t189 = t186 then (if (t190 != t187) = true then (some false) else (some true)) else (some false)) else (some false)) = some r := H
    have A4 := Aside0.mk A40
    clear A40
    by_cases c5 : t188 = t185
    · rw [if_pos c5] at H
      have c5b0 : (t188 == t185) = true := beq_iff_eq.mpr c5
      have c5b1 : (t188 != t185) = false := bne_eq_false_iff_eq.mpr c5
      clear c5
      by_cases c6 : t189 = t186
      · rw [if_pos c6] at H
        have c6b0 : (t189 == t186) = true := beq_iff_eq.mpr c6
        have c6b1 : (t189 != t186) = false := bne_eq_false_iff_eq.mpr c6
        clear c6
        by_cases c7 : (t190 != t187) = true
        · rw [if_pos c7] at H
          have c7b0 : (t190 != t187) = true := c7
          (try (have c7b1 : decide (t190 = t187) = false := by simpa using c7))
          (try (have c7b2 : (t190 == t187) = false := by simpa using c7))
          (try (have c7b3 : ¬ (t190 = t187) := by simpa using c7))
          clear c7
          obtain rfl := Option.some.inj H
          go_enter Try.func8, Try.ntmps8
          go_wp2_with (first | ((with_reducible refine gate_callee (f := 18) rfl ?_); refine goesL_ (some 14) rfl rfl Try.func18 (by kernel_rfl) rfl #[.string a0] rfl (by (try simp only [List.map_toArray, List.map_cons, List.map_nil]); first | done | rfl | (simp only [List.length_drop, List.length_take]; rfl)) ?_; (with_reducible refine (spec_TermEnd.calls k a0 t185 t186 t187 _ A3.out).mono ?_); rintro e w8 ⟨rfl, hb⟩; refine ⟨_, rfl, ?_⟩; have n0_ := Aside0.mk (below_step (by repeat (first | (with_reducible first | exact HB.out | apply below_alloc | apply pw_below_drewN | apply below_drew1) | exact HB.out)) hb); clear HB; have HB := n0_; clear n0_; (try clear hb); (try clear hb2); (try clear hk); (try clear hi)) | ((with_reducible refine gate_callee (f := 19) rfl ?_); refine goesL_ (some 20) rfl rfl Try.func19 (by kernel_rfl) rfl #[.string a0] rfl (by (try simp only [List.map_toArray, List.map_cons, List.map_nil]); first | done | rfl | (simp only [List.length_drop, List.length_take]; rfl)) ?_; (with_reducible refine (impl_TermEnd.calls k a0 t188 t189 t190 _ A4.out).mono ?_); rintro e w9 ⟨rfl, hb⟩; refine ⟨_, rfl, ?_⟩; have n0_ := Aside0.mk (below_step (by repeat (first | (with_reducible first | exact HB.out | apply below_alloc | apply pw_below_drewN | apply below_drew1) | exact HB.out)) hb); clear HB; have HB := n0_; clear n0_; (try clear hb); (try clear hb2); (try clear hk); (try clear hi)))
          go_ret
          exact ⟨by first | rfl | (simp [errW_none, errW_some] <;> rfl) | (simp [*, errW_none, errW_some] <;> rfl), by repeat (first | (with_reducible first | exact HB.out | apply below_alloc | apply pw_below_drewN | apply below_drew1) | exact HB.out)⟩
        · rw [if_neg c7] at H
          have c7b0 : (t190 != t187) = false := by simpa using c7
          (try (have c7b1 : decide (t190 = t187) = true := by simpa using c7))
          (try (have c7b2 : (t190 == t187) = true := by simpa using c7))
          clear c7
          obtain rfl := Option.some.inj H
          go_enter Try.func8, Try.ntmps8
          go_wp2_with (first | ((with_reducible refine gate_callee (f := 18) rfl ?_); refine goesL_ (some 14) rfl rfl Try.func18 (by kernel_rfl) rfl #[.string a0] rfl (by (try simp only [List.map_toArray, List.map_cons, List.map_nil]); first | done | rfl | (simp only [List.length_drop, List.length_take]; rfl)) ?_; (with_reducible refine (spec_TermEnd.calls k a0 t185 t186 t187 _ A3.out).mono ?_); rintro e w10 ⟨rfl, hb⟩; refine ⟨_, rfl, ?_⟩; have n0_ := Aside0.mk (below_step (by repeat (first | (with_reducible first | exact HB.out | apply below_alloc | apply pw_below_drewN | apply below_drew1) | exact HB.out)) hb); clear HB; have HB := n0_; clear n0_; (try clear hb); (try clear hb2); (try clear hk); (try clear hi)) | ((with_reducible refine gate_callee (f := 19) rfl ?_); refine goesL_ (some 20) rfl rfl Try.func19 (by kernel_rfl) rfl #[.string a0] rfl (by (try simp only [List.map_toArray, List.map_cons, List.map_nil]); first | done | rfl | (simp only [List.length_drop, List.length_take]; rfl)) ?_; (with_reducible refine (impl_TermEnd.calls k a0 t188 t189 t190 _ A4.out).mono ?_); rintro e w11 ⟨rfl, hb⟩; refine ⟨_, rfl, ?_⟩; have n0_ := Aside0.mk (below_step (by repeat (first | (with_reducible first | exact HB.out | apply below_alloc | apply pw_below_drewN | apply below_drew1) | exact HB.out)) hb); clear HB; have HB := n0_; clear n0_; (try clear hb); (try clear hb2); (try clear hk); (try clear hi)))
          go_ret
          exact ⟨by first | rfl | (simp [errW_none, errW_some] <;> rfl) | (simp [*, errW_none, errW_some] <;> rfl), by repeat (first | (with_reducible first | exact HB.out | apply below_alloc | apply pw_below_drewN | apply below_drew1) | exact HB.out)⟩
      · rw [if_neg c6] at H
        have c6b0 : (t189 == t186) = false := beq_eq_false_iff_ne.mpr c6
        have c6b1 : (t189 != t186) = true := bne_iff_ne.mpr c6
        obtain rfl := Option.some.inj H
        go_enter Try.func8, Try.ntmps8
        go_wp2_with (first | ((with_reducible refine gate_callee (f := 18) rfl ?_); refine goesL_ (some 14) rfl rfl Try.func18 (by kernel_rfl) rfl #[.string a0] rfl (by (try simp only [List.map_toArray, List.map_cons, List.map_nil]); first | done | rfl | (simp only [List.length_drop, List.length_take]; rfl)) ?_; (with_reducible refine (spec_TermEnd.calls k a0 t185 t186 t187 _ A3.out).mono ?_); rintro e w12 ⟨rfl, hb⟩; refine ⟨_, rfl, ?_⟩; have n0_ := Aside0.mk (below_step (by repeat (first | (with_reducible first | exact HB.out | apply below_alloc | apply pw_below_drewN | apply below_drew1) | exact HB.out)) hb); clear HB; have HB := n0_; clear n0_; (try clear hb); (try clear hb2); (try clear hk); (try clear hi)) | ((with_reducible refine gate_callee (f := 19) rfl ?_); refine goesL_ (some 20) rfl rfl Try.func19 (by kernel_rfl) rfl #[.string a0] rfl (by (try simp only [List.map_toArray, List.map_cons, List.map_nil]); first | done | rfl | (simp only [List.length_drop, List.length_take]; rfl)) ?_; (with_reducible refine (impl_TermEnd.calls k a0 t188 t189 t190 _ A4.out).mono ?_); rintro e w13 ⟨rfl, hb⟩; refine ⟨_, rfl, ?_⟩; have n0_ := Aside0.mk (below_step (by repeat (first | (with_reducible first | exact HB.out | apply below_alloc | apply pw_below_drewN | apply below_drew1) | exact HB.out)) hb); clear HB; have HB := n0_; clear n0_; (try clear hb); (try clear hb2); (try clear hk); (try clear hi)))
        go_ret
        exact ⟨by first | rfl | (simp [errW_none, errW_some] <;> rfl) | (simp [*, errW_none, errW_some] <;> rfl), by repeat (first | (with_reducible first | exact HB.out | apply below_alloc | apply pw_below_drewN | apply below_drew1) | exact HB.out)⟩
    · rw [if_neg c5] at H
      have c5b0 : (t188 == t185) = false := beq_eq_false_iff_ne.mpr c5
      have c5b1 : (t188 != t185) = true := bne_iff_ne.mpr c5
      obtain rfl := Option.some.inj H
      go_enter Try.func8, Try.ntmps8
      go_wp2_with (first | ((with_reducible refine gate_callee (f := 18) rfl ?_); refine goesL_ (some 14) rfl rfl Try.func18 (by kernel_rfl) rfl #[.string a0] rfl (by (try simp only [List.map_toArray, List.map_cons, List.map_nil]); first | done | rfl | (simp only [List.length_drop, List.length_take]; rfl)) ?_; (with_reducible refine (spec_TermEnd.calls k a0 t185 t186 t187 _ A3.out).mono ?_); rintro e w14 ⟨rfl, hb⟩; refine ⟨_, rfl, ?_⟩; have n0_ := Aside0.mk (below_step (by repeat (first | (with_reducible first | exact HB.out | apply below_alloc | apply pw_below_drewN | apply below_drew1) | exact HB.out)) hb); clear HB; have HB := n0_; clear n0_; (try clear hb); (try clear hb2); (try clear hk); (try clear hi)) | ((with_reducible refine gate_callee (f := 19) rfl ?_); refine goesL_ (some 20) rfl rfl Try.func19 (by kernel_rfl) rfl #[.string a0] rfl (by (try simp only [List.map_toArray, List.map_cons, List.map_nil]); first | done | rfl | (simp only [List.length_drop, List.length_take]; rfl)) ?_; (with_reducible refine (impl_TermEnd.calls k a0 t188 t189 t190 _ A4.out).mono ?_); rintro e w15 ⟨rfl, hb⟩; refine ⟨_, rfl, ?_⟩; have n0_ := Aside0.mk (below_step (by repeat (first | (with_reducible first | exact HB.out | apply below_alloc | apply pw_below_drewN | apply below_drew1) | exact HB.out)) hb); clear HB; have HB := n0_; clear n0_; (try clear hb); (try clear hb2); (try clear hk); (try clear hi)))
      go_ret
      exact ⟨by first | rfl | (simp [errW_none, errW_some] <;> rfl) | (simp [*, errW_none, errW_some] <;> rfl), by repeat (first | (with_reducible first | exact HB.out | apply below_alloc | apply pw_below_drewN | apply below_drew1) | exact HB.out)⟩

/-- THE ONE PURE STATEMENT of laws_FnExactTermEnd: yours. -/
def laws_FnExactTermEnd.Pure : Prop := ∀ (a0 : ByteArray), a0.size ≤ 140737488351232 → ∃ k, laws_FnExactTermEnd.f k a0 = some true
theorem laws_FnExactTermEnd.walk (P : laws_FnExactTermEnd.Pure) (a0 : ByteArray) (w : World) (w0 : a0.size ≤ 140737488351232) :
    Calls Try.prog 8 #[.string a0] w fun e w' => e = .returned (.bool true) ∧ Below w.heap.size w w' := by
  obtain ⟨k, h⟩ := P a0 w0
  refine (laws_FnExactTermEnd.calls k a0 true w h).mono ?_
  rintro e w' ⟨rfl, hd⟩
  exact ⟨rfl, hd⟩

end Go.Proofs.Ytdimlajglamomaa.PFnExactTermEnd
