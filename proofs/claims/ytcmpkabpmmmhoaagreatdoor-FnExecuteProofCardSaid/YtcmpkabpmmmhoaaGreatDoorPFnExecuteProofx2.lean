/- Written by a program of this claim out of the translation: plain Lean functions and their contracts; what is proved: each Go function of this text comes to what its Lean function says. -/
import Derived.Test.YtcmpkabpmmmhoaaGreatDoorPFnExecuteProofx0
namespace Go.Proofs.YtcmpkabpmmmhoaaGreatDoor.PFnExecuteProof
open Go.RowKit Go.Proofs.YtcmpkabpmmmhoaaGreatDoorW.PrintWords Go.Proofs.YtcmpkabpmmmhoaaGreatDoorW.PrintLast Go.Proofs.YtcmpkabpmmmhoaaGreatDoorW.PrintMore
attribute [local go_sem] max2_int min2_int max_two min_two max_three min_three max_four min_four   -- for this text's walks alone
set_option linter.unusedVariables false
set_option linter.unusedSimpArgs false

/-! ### spec_l1Sort: function 162, by hand -/
def spec_l1Sort.l1 : Nat → List Int → List Int → Int → Int → Option Int
  | 0, _, _, _, _ => none
  | k + 1, a, out, i, j => if 0 < j then (if wrap64 (j - 1) < (out.length : Int) then (if 0 ≤ wrap64 (j - 1) then (if rd a i < rd out (wrap64 (j - 1)) then spec_l1Sort.l1 k a out i (wrap64 (j - 1)) else some j) else none) else none) else some j
def spec_l1Sort.l0 : Nat → List Int → List Int → Int → Option (List Int)
  | 0, _, _, _ => none
  | k + 1, a, out, i => if i < (a.length : Int) then (if 0 ≤ i then ((spec_l1Sort.l1 k a out i (out.length : Int)).bind fun j => if 0 ≤ j then (if j ≤ (out.length : Int) then (if out.length < 1000 then spec_l1Sort.l0 k a ((([] ++ out.take j.toNat) ++ [rd a i]) ++ out.drop j.toNat) (wrap64 (i + 1)) else none) else none) else none) else none) else some out
def spec_l1Sort.f (k : Nat) (a : List Int) : Option (List Int) := spec_l1Sort.l0 k a [] 0
theorem spec_l1Sort.mono1 : ∀ k, (∀ y0 y1 y2 y3, LeO (spec_l1Sort.l1 k y0 y1 y2 y3) (spec_l1Sort.l1 (k + 1) y0 y1 y2 y3))
  | 0 => fun _ _ _ _ r h => by simp [spec_l1Sort.l1] at h
  | k + 1 => by
    have ih0 := spec_l1Sort.mono1 k
    intro y0 y1 y2 y3
    unfold spec_l1Sort.l1
    repeat' first
      | (with_reducible exact ih0 _ _ _ _)
      | (with_reducible exact LeO.refl _)
      | (with_reducible refine LeO.ite ?_ ?_)
theorem spec_l1Sort.mono0 : ∀ k, (∀ y0 y1 y2, LeO (spec_l1Sort.l0 k y0 y1 y2) (spec_l1Sort.l0 (k + 1) y0 y1 y2))
  | 0 => fun _ _ _ r h => by simp [spec_l1Sort.l0] at h
  | k + 1 => by
    have ih0 := spec_l1Sort.mono0 k
    have ih1 := spec_l1Sort.mono1 k
    intro y0 y1 y2
    unfold spec_l1Sort.l0
    repeat' first
      | (with_reducible exact ih0 _ _ _)
      | (with_reducible exact ih1 _ _ _ _)
      | (with_reducible exact LeO.refl _)
      | (with_reducible refine LeO.ite ?_ ?_)
      | (with_reducible refine LeO.bind ?_ (fun _ => ?_))
theorem spec_l1Sort.mono : ∀ a0 k, LeO (spec_l1Sort.f k a0) (spec_l1Sort.f (k + 1) a0) := fun _ k => spec_l1Sort.mono0 k _ _ _
theorem spec_l1Sort.heap_new {W : World} {o : Obj} {g : Nat} (h : g = W.heap.size) : (W.alloc o).heap[g]? = some o := by
  subst h
  exact heap_alloc_new W o
theorem spec_l1Sort.row_none {w : World} {g base : Nat} (h : w.heap[g]? = some (.cells #[] 3 (0, 0))) (hb : base ≤ g) : Kd.R (Kd.int .i64) 3 w base (fun _ => True) (.slice (some ⟨g, 0, none⟩) 0 0) [] :=
  ⟨fun _ _ => trivial, [], ⟨rfl, Or.inr ⟨g, 0, #[], rfl, hb, h, Nat.le_refl _, by decide, rfl, rfl⟩⟩, Reps.none _ _⟩
theorem spec_l1Sort.row_one {w : World} {g base : Nat} {x : Int} (h : w.heap[g]? = some (.cells #[.int .i64 x] 3 (0, 0))) (hb : base ≤ g) : Kd.R (Kd.int .i64) 3 w base (fun _ => True) (.slice (some ⟨g, 0, none⟩) 1 1) [x] :=
  Kd.R_of_own (xs := [x]) ⟨rfl, Or.inr ⟨g, 1, #[.int .i64 x], rfl, hb, h, Nat.le_refl _, by decide, rfl, rfl⟩⟩ (fun _ _ => trivial)
set_option maxHeartbeats 8000000 in
set_option maxRecDepth 100000 in
theorem spec_l1Sort.calls (k : Nat) (A0 : Option Addr) (c0 : Nat) (l0 : List Int) (r : List Int) (w : World) (hr0 : Kd.C (Kd.int .i64) w A0 l0.length l0) (hc0 : l0.length ≤ c0) (h : spec_l1Sort.f k l0 = some r) :
    Calls Tryz.prog 162 #[.slice A0 l0.length c0] w fun e w' => ∃ v0_ : Value, e = .returned (v0_) ∧ Kd.R (Kd.int .i64) 3 w' w.heap.size (fun _ => True) v0_ r ∧ Below w.heap.size w w' := by
  have HR0 := Aside0.mk hr0
  have HC0 := Aside0.mk hc0
  clear hr0 hc0
  have H : spec_l1Sort.l0 k l0 [] 0 = some r := h
  clear h
  have H' := Aside0.mk H
  clear H
  go_enter Tryz.func162, Tryz.ntmps162
  go_wp2
  go_loopg [3, 4] k (fun kq v3 v4 w' => ∃ (out : List Int) (i : Int), v4 = .int .i64 i ∧ Aside0 (spec_l1Sort.l0 kq l0 out i = some r) ∧ Aside0 (kq ≤ k) ∧ Aside0 (Kd.R (Kd.int .i64) 3 w' w.heap.size (fun _ => True) v3 out) ∧ Aside0 (Below w.heap.size w w'))
  case atStart => exact ⟨[], 0, (by first | rfl | (simp; done)), H', ⟨Nat.le_refl _⟩, ⟨spec_l1Sort.row_none (by repeat (first | (refine spec_l1Sort.heap_new ?_; simp; done) | refine blk_alloc ?_ _)) (Nat.le_refl _)⟩, ⟨by repeat (first | exact Below.refl _ _ | apply below_alloc)⟩⟩
  case round =>
    clear H'
    obtain ⟨out, i, rfl, HA, HK, HO, HB⟩ := hrel
    obtain ⟨wo, rfl⟩ : ∃ x : World, x = wr := ⟨wr, rfl⟩
    cases gk with
    | zero => exact absurd HA.out (by simp [spec_l1Sort.l0])
    | succ k1 =>
      have H := HA.out
      clear HA
      simp only [spec_l1Sort.l0] at H
      obtain ⟨A, c, rfl⟩ := Kd.R_slice HO.out
      by_cases c1 : i < (l0.length : Int)
      · rw [if_pos c1] at H
        have c1b : decide (i < (l0.length : Int)) = true := decide_eq_true c1
        by_cases c2 : 0 ≤ i
        · rw [if_pos c2] at H
          obtain ⟨j, h1, H⟩ := Option.bind_eq_some_iff.mp H
          by_cases c3 : 0 ≤ j
          · rw [if_pos c3] at H
            by_cases c4 : j ≤ (out.length : Int)
            · rw [if_pos c4] at H
              by_cases c5 : out.length < 1000
              · rw [if_pos c5] at H
                have HJ := Aside0.mk (And.intro c3 (And.intro c4 c5))
                have H1 := Aside0.mk h1
                have H' := Aside0.mk H
                clear h1 H c3 c4 c5
                obtain ⟨ad, e1, hx⟩ := Kd.at_int HR0.out i c2 c1
                cases e1
                have hx' := (HB.out.cell (World.block_lt_of_cell? _ _ hx)).trans hx
                have HX := Aside0.mk hx'
                have GC := Aside0.mk (Kd.R_reads' HO.out).2
                have HI := Aside0.mk (And.intro c2 c1)
                clear hx hx' c1 c2
                go_wp2
                go_loopg [5] k1 (fun kq v5 w' => ∃ (jj : Int), v5 = .int .i64 jj ∧ Aside0 (spec_l1Sort.l1 kq l0 out i jj = some j) ∧ Aside0 (kq ≤ k1) ∧ Drawn0 wo w')
                case atStart => exact ⟨(out.length : Int), (by first | rfl | (simp; done)), H1, ⟨Nat.le_refl _⟩, Drawn0.refl _⟩
                case round =>
                  clear H1
                  obtain ⟨jj, rfl, HA1, HK1, ⟨nd, rfl⟩⟩ := hrel
                  cases gk with
                  | zero => exact absurd HA1.out (by simp [spec_l1Sort.l1])
                  | succ k2 =>
                    have H := HA1.out
                    clear HA1
                    simp only [spec_l1Sort.l1] at H
                    have cx := HX.out
                    have pi0 := eq_true HI.out.1
                    have pi1 := eq_true HI.out.2
                    by_cases d1 : 0 < jj
                    · rw [if_pos d1] at H
                      have d1b : decide (0 < jj) = true := decide_eq_true d1
                      obtain ⟨jm, hjm⟩ : ∃ j_ : Int, wrap64 (jj - 1) = j_ := ⟨_, rfl⟩
                      rw [hjm] at H
                      have hjmw : IntKind.i64.wrap (jj - 1) = jm := (i64_w _).trans hjm
                      by_cases d2 : jm < (out.length : Int)
                      · rw [if_pos d2] at H
                        by_cases d3 : 0 ≤ jm
                        · rw [if_pos d3] at H
                          obtain ⟨ad2, e2, hy⟩ := Kd.at_int GC.out.2 jm d3 d2
                          subst e2
                          have pj0 := eq_true d3
                          have pj1 := eq_true d2
                          by_cases d4 : rd l0 i < rd out jm
                          · rw [if_pos d4] at H
                            have d4b : decide (rd l0 i < rd out jm) = true := decide_eq_true d4
                            have H2 := Aside0.mk H
                            clear H d4 d2 d3
                            go_wp2
                            go_quiet (fail)
                            go_wp2
                            go_roundg k2
                            case measure => omega
                            case rel => exact ⟨jm, (by first | rfl | (simp; done) | (simp [*]; done)), H2, ⟨by have := HK1.out; omega⟩, by repeat (first | exact Drawn0.refl _ | exact ⟨_, rfl⟩ | apply Drawn0.step)⟩
                          · rw [if_neg d4] at H
                            have d4b : decide (rd l0 i < rd out jm) = false := decide_eq_false d4
                            obtain rfl := Option.some.inj H
                            clear H d4 d2 d3
                            go_wp2
                            go_quiet (fail)
                            go_wp2
                            clear hjm hjmw hy pj0 pj1 d4b
                            obtain ⟨A, hA⟩ : ∃ x : Option Addr, some ad2 = x := ⟨_, rfl⟩
                            rw [hA] at HO GC ⊢
                            clear hA
                            have HN := Aside0.mk (Below.refl wo.heap.size wo)
                            have hjl : jj.toNat ≤ out.length := by have := HJ.out.2.1; have := HJ.out.1; omega
                            obtain ⟨i0, hi0, _, hs0, _⟩ := info_parts info3
                            have hcut1 : ∀ W : World, (Instr.slice 23 (.slice A out.length c) none (some (.int .i64 jj)) none).run Tryz.prog W = .ok (.slice A jj.toNat c) W := cut_to (P := Tryz.prog) 23 3 .i64 Tryz.underlying23 hi0 A out.length c jj HJ.out.1 HJ.out.2.1 GC.out.1
                            obtain ⟨A2, hA2⟩ : ∃ x : Option Addr, (if c = jj.toNat then A else A.map (·.add (jj.toNat * 1))) = x := ⟨_, rfl⟩
                            have hcut2 : ∀ W : World, (Instr.slice 23 (.slice A out.length c) (some (.int .i64 jj)) none none).run Tryz.prog W = .ok (.slice A2 (out.drop jj.toNat).length (c - jj.toNat)) W := by
                              intro W
                              rw [← hA2, List.length_drop]
                              exact cut_from (P := Tryz.prog) 23 3 .i64 Tryz.underlying23 hi0 1 hs0 A out.length c jj HJ.out.1 HJ.out.2.1 W
                            have HT := Aside0.mk (Kd.R_reads' (Kd.R_take (m := jj.toNat) HO.out hjl)).2.2
                            have HD0 : Kd.C (Kd.int .i64) wo A2 (out.drop jj.toNat).length (out.drop jj.toNat) := hA2 ▸ Kd.C_drop GC.out.2 hjl GC.out.1
                            have HD : Aside0 (Kd.C (Kd.int .i64) wo A2 (out.length - jj.toNat) (out.drop jj.toNat)) := ⟨(List.length_drop (i := jj.toNat) (l := out)) ▸ HD0⟩
                            clear HD0
                            have hlt : (out.take jj.toNat).length = jj.toNat := by rw [List.length_take]; omega
                            rw [hlt] at HT
                            have HLT := Aside0.mk (World.block_lt_of_cell? _ _ HX.out)
                            clear hi0 hs0 hA2 hlt cx hjl
                            refine start_ (n := 16) (S := fun w' => w'.cell? (ad.add i.toNat) = some (.int .i64 (rd l0 i))) (ds := []) #[false, false, false, false, false, false, false, false, false, false, false, false, false, false, false, false] (by kernel_rfl) rfl rfl ((Below.cell (by repeat (first | exact HN.out | exact Below.refl _ _ | apply below_alloc | apply pw_below_drewN | apply below_drew1)) HLT.out |>.trans HX.out)) (fun hHeld => ?_)
                            refine pure_ (i := 1) (N := some 32) (v := ?_) (a' := ?_) #[false, true, false, false, false, false, false, false, false, false, false, false, false, false, false, false] rfl rfl (by kernel_rfl) (fun _ _ _ h => h) (Or.inl ⟨by rfl, ?_⟩) ?_ ?_
                            rotate_left
                            · intro w'
                              go_simp
                              with_reducible rfl
                            rotate_left
                            · simp only [Act.put, List.setIfInBounds_toArray, List.set_cons_zero, List.set_cons_succ, i64_w, i32_w]
                              rfl
                            refine pure_ (i := 2) (N := some 33) (v := ?_) (a' := ?_) #[false, true, true, false, false, false, false, false, false, false, false, false, false, false, false, false] rfl rfl (by kernel_rfl) (fun _ _ _ h => h) (Or.inl ⟨by rfl, ?_⟩) ?_ ?_
                            rotate_left
                            · intro w'
                              go_simp
                              with_reducible rfl
                            rotate_left
                            · simp only [Act.put, List.setIfInBounds_toArray, List.set_cons_zero, List.set_cons_succ, i64_w, i32_w]
                              rfl
                            refine pure_ (i := 3) (N := some 34) (v := ?_) (a' := ?_) #[false, true, true, true, false, false, false, false, false, false, false, false, false, false, false, false] rfl rfl (by kernel_rfl) (fun _ _ _ h => h) (Or.inl ⟨by rfl, ?_⟩) ?_ ?_
                            rotate_left
                            · intro w'
                              go_simp
                              with_reducible rfl
                            rotate_left
                            · simp only [Act.put, List.setIfInBounds_toArray, List.set_cons_zero, List.set_cons_succ, i64_w, i32_w]
                              rfl
                            refine pure_ (i := 5) (N := some 36) (v := ?_) (a' := ?_) #[false, true, true, true, false, true, false, false, false, false, false, false, false, false, false, false] rfl rfl (by kernel_rfl) (fun _ _ _ h => h) (Or.inl ⟨by rfl, ?_⟩) ?_ ?_
                            rotate_left
                            · intro w'
                              go_simp
                              with_reducible rfl
                            rotate_left
                            · simp only [Act.put, List.setIfInBounds_toArray, List.set_cons_zero, List.set_cons_succ, i64_w, i32_w]
                              rfl
                            refine pure_ (i := 6) (N := some 37) (v := ?_) (a' := ?_) #[false, true, true, true, false, true, true, false, false, false, false, false, false, false, false, false] rfl rfl (by kernel_rfl) (fun _ _ _ h => h) (Or.inl ⟨by rfl, ?_⟩) ?_ ?_
                            rotate_left
                            · intro w'
                              go_simp
                              with_reducible rfl
                            rotate_left
                            · simp only [Act.put, List.setIfInBounds_toArray, List.set_cons_zero, List.set_cons_succ, i64_w, i32_w]
                              rfl
                            refine pure_ (i := 7) (N := some 38) (v := ?_) (a' := ?_) #[false, true, true, true, false, true, true, true, false, false, false, false, false, false, false, false] rfl rfl (by kernel_rfl) (fun _ _ _ h => h) (Or.inl ⟨by rfl, ?_⟩) ?_ ?_
                            rotate_left
                            · intro w'
                              go_simp
                              with_reducible rfl
                            rotate_left
                            · simp only [Act.put, List.setIfInBounds_toArray, List.set_cons_zero, List.set_cons_succ, i64_w, i32_w]
                              rfl
                            refine pure_ (i := 11) (N := some 42) (v := ?_) (a' := ?_) #[false, true, true, true, false, true, true, true, false, false, false, true, false, false, false, false] rfl rfl (by kernel_rfl) (fun _ _ _ h => h) (Or.inl ⟨by rfl, ?_⟩) ?_ ?_
                            rotate_left
                            · intro w'
                              go_simp
                              with_reducible rfl
                            rotate_left
                            · simp only [Act.put, List.setIfInBounds_toArray, List.set_cons_zero, List.set_cons_succ, i64_w, i32_w]
                              rfl
                            refine pure_ (i := 12) (N := some 43) (v := ?_) (a' := ?_) #[false, true, true, true, false, true, true, true, false, false, false, true, true, false, false, false] rfl rfl (by kernel_rfl) (fun _ _ _ h => h) (Or.inl ⟨by rfl, ?_⟩) ?_ ?_
                            rotate_left
                            · intro w'
                              go_simp
                              with_reducible rfl
                            rotate_left
                            · simp only [Act.put, List.setIfInBounds_toArray, List.set_cons_zero, List.set_cons_succ, i64_w, i32_w]
                              rfl
                            refine pure_ (i := 13) (N := some 44) (v := ?_) (a' := ?_) #[false, true, true, true, false, true, true, true, false, false, false, true, true, true, false, false] rfl rfl (by kernel_rfl) (fun _ _ _ h => h) (Or.inl ⟨by rfl, ?_⟩) ?_ ?_
                            rotate_left
                            · intro w'
                              go_simp
                              with_reducible rfl
                            rotate_left
                            · simp only [Act.put, List.setIfInBounds_toArray, List.set_cons_zero, List.set_cons_succ, i64_w, i32_w]
                              rfl
                            refine take_ (i := 8) (N := some 39) (v := ?_) (a' := ?_) #[false, true, true, true, false, true, true, true, true, false, false, true, true, true, false, false] rfl rfl (by kernel_rfl) (fun _ _ _ h => h) (Or.inl ⟨by rfl, ?_⟩) hHeld ?_ ?_
                            rotate_left
                            · intro w' s0
                              go_simp
                              with_reducible rfl
                            rotate_left
                            · simp only [Act.put, List.setIfInBounds_toArray, List.set_cons_zero, List.set_cons_succ, i64_w, i32_w]
                              rfl
                            refine join_ (σ := Value × Value × Value) 3 #[true, true, true, true, true, true, true, true, true, true, false, true, true, true, false, false] (fun s => [(31, s.1), (35, s.2.1), (40, s.2.2)]) (fun s w' => ∃ g : Nat, Kd.R (Kd.int .i64) 3 w' wo.heap.size (fun _ => True) s.2.1 ([] ++ out.take jj.toNat) ∧ s.2.2 = .slice (some ⟨g, 0, none⟩) 1 1 ∧ w'.heap[g]? = some (.cells #[.int .i64 (rd l0 i)] 3 (0, 0)) ∧ Below wo.heap.size wo w') ?_ ?_
                            rotate_left
                            · intro hCont
                              refine two_ (i := 0) (j := 9) (Ni := some 31) (Nj := some 40) #[true, true, true, true, false, true, true, true, true, false, false, true, true, true, false, false] #[false, true, true, true, false, true, true, true, true, true, false, true, true, true, false, false] rfl rfl rfl rfl (by kernel_rfl) (by decide) (by decide) (fun K hK => ?_) (fun K hK => ?_)
                              · skip
                                refine value_ (w1 := ?_) (v := ?_) (by rfl) rfl ?_ ?_
                                rotate_left 2
                                · go_simp
                                  constructor
                                  · rfl
                                  · rfl
                                refine hK.out _ _ ((Below.cell (by repeat (first | exact HN.out | exact Below.refl _ _ | apply below_alloc | apply pw_below_drewN | apply below_drew1)) HLT.out |>.trans HX.out)) (fun hHeld => ?_)
                                clear hK K
                                refine norm_ (a' := ?_) ?_ ?_
                                rotate_left
                                · show Act.put _ (some 31) _ = _
                                  simp only [Act.put, List.setIfInBounds_toArray, List.set_cons_zero, List.set_cons_succ, i64_w, i32_w]
                                  rfl
                                refine two_ (i := 4) (j := 9) (Ni := some 35) (Nj := some 40) #[true, true, true, true, true, true, true, true, true, false, false, true, true, true, false, false] #[true, true, true, true, false, true, true, true, true, true, false, true, true, true, false, false] rfl rfl rfl rfl (by kernel_rfl) (by decide) (by decide) (fun K hK => ?_) (fun K hK => ?_)
                                · skip
                                  refine Kd.R_append_rows_step (Kd.int .i64) (Rr := fun x cs => cs = [.int .i64 x]) (w0 := wo) wo.heap.size (by rfl) (.tmp 31) (.tmp 34) 23 3 (.int .i64 0) 8 (by rfl) Tryz.underlying23 info3 (by rfl) (by decide) (by decide) (.slice (some ⟨wo.heap.size, 0, none⟩) 0 0) ([]) (out.take jj.toNat) A jj.toNat c (fun _ => True) (fun _ => False) (by rfl) (by rfl) ?HOq2 ?HRq2 (fun _ _ h => h) (fun _ h => h.elim) (fun _ _ => trivial) ?HBq2 ?hbq2 ?hlq2 ?_
                                  case HOq2 => (refine spec_l1Sort.row_none ?_ ?_; (first | exact spec_l1Sort.heap_new (by simp) | exact blk_alloc (spec_l1Sort.heap_new (by simp)) _); (first | exact Nat.le_refl _ | simp))
                                  case HRq2 => exact Kd.C_below HT.out (by repeat (first | exact HN.out | exact Below.refl _ _ | apply below_alloc | apply pw_below_drewN | apply below_drew1))
                                  case HBq2 => exact (by repeat (first | exact HN.out | exact Below.refl _ _ | apply below_alloc | apply pw_below_drewN | apply below_drew1))
                                  case hbq2 => exact Below.size (by repeat (first | exact HN.out | exact Below.refl _ _ | apply below_alloc | apply pw_below_drewN | apply below_drew1))
                                  case hlq2 => have := HJ.out.2.2; have := HJ.out.2.1; simp; omega
                                  intro v1 w1 ho hb hg hat
                                  have HO1 := Aside0.mk ho
                                  clear HN
                                  have HN := Aside0.mk hb
                                  clear ho hb hg hat
                                  refine hK.out _ _ ((Below.cell (by repeat (first | exact HN.out | exact Below.refl _ _ | apply below_alloc | apply pw_below_drewN | apply below_drew1)) HLT.out |>.trans HX.out)) (fun hHeld => ?_)
                                  clear hK K
                                  refine norm_ (a' := ?_) ?_ ?_
                                  rotate_left
                                  · show Act.put _ (some 35) _ = _
                                    simp only [Act.put, List.setIfInBounds_toArray, List.set_cons_zero, List.set_cons_succ, i64_w, i32_w]
                                    rfl
                                  refine one_ (i := 9) (N := some 40) #[true, true, true, true, true, true, true, true, true, true, false, true, true, true, false, false] rfl rfl (by kernel_rfl) (by decide) (fun K hK => ?_)
                                  refine value_ (w1 := ?_) (v := ?_) (by rfl) rfl ?_ ?_
                                  rotate_left 2
                                  · go_simp
                                    constructor
                                    · rfl
                                    · rfl
                                  refine hK.out _ _ ((Below.cell (by repeat (first | exact HN.out | exact Below.refl _ _ | apply below_alloc | apply pw_below_drewN | apply below_drew1)) HLT.out |>.trans HX.out)) (fun hHeld => ?_)
                                  clear hK K
                                  refine norm_ (a' := ?_) ?_ ?_
                                  rotate_left
                                  · show Act.put _ (some 40) _ = _
                                    simp only [Act.put, List.setIfInBounds_toArray, List.set_cons_zero, List.set_cons_succ, i64_w, i32_w]
                                    rfl
                                  exact norm_ (by simp only [putAll, Act.put, List.setIfInBounds_toArray, List.set_cons_zero, List.set_cons_succ]) (hCont (Value.slice (some ⟨wo.heap.size, 0, none⟩) 0 0, v1, Value.slice (some ⟨w1.heap.size, 0, none⟩) 1 1) _ ⟨_, (Kd.R_alloc HO1.out _), rfl, (spec_l1Sort.heap_new rfl), (by repeat (first | exact HN.out | exact Below.refl _ _ | apply below_alloc | apply pw_below_drewN | apply below_drew1))⟩)
                                · skip
                                  refine value_ (w1 := ?_) (v := ?_) (by rfl) rfl ?_ ?_
                                  rotate_left 2
                                  · go_simp
                                    constructor
                                    · rfl
                                    · rfl
                                  refine hK.out _ _ ((Below.cell (by repeat (first | exact HN.out | exact Below.refl _ _ | apply below_alloc | apply pw_below_drewN | apply below_drew1)) HLT.out |>.trans HX.out)) (fun hHeld => ?_)
                                  clear hK K
                                  refine norm_ (a' := ?_) ?_ ?_
                                  rotate_left
                                  · show Act.put _ (some 40) _ = _
                                    simp only [Act.put, List.setIfInBounds_toArray, List.set_cons_zero, List.set_cons_succ, i64_w, i32_w]
                                    rfl
                                  refine one_ (i := 4) (N := some 35) #[true, true, true, true, true, true, true, true, true, true, false, true, true, true, false, false] rfl rfl (by kernel_rfl) (by decide) (fun K hK => ?_)
                                  refine Kd.R_append_rows_step (Kd.int .i64) (Rr := fun x cs => cs = [.int .i64 x]) (w0 := wo) wo.heap.size (by rfl) (.tmp 31) (.tmp 34) 23 3 (.int .i64 0) 8 (by rfl) Tryz.underlying23 info3 (by rfl) (by decide) (by decide) (.slice (some ⟨wo.heap.size, 0, none⟩) 0 0) ([]) (out.take jj.toNat) A jj.toNat c (fun _ => True) (fun _ => False) (by rfl) (by rfl) ?HOq5 ?HRq5 (fun _ _ h => h) (fun _ h => h.elim) (fun _ _ => trivial) ?HBq5 ?hbq5 ?hlq5 ?_
                                  case HOq5 => (refine spec_l1Sort.row_none ?_ ?_; (first | exact spec_l1Sort.heap_new (by simp) | exact blk_alloc (spec_l1Sort.heap_new (by simp)) _); (first | exact Nat.le_refl _ | simp))
                                  case HRq5 => exact Kd.C_below HT.out (by repeat (first | exact HN.out | exact Below.refl _ _ | apply below_alloc | apply pw_below_drewN | apply below_drew1))
                                  case HBq5 => exact (by repeat (first | exact HN.out | exact Below.refl _ _ | apply below_alloc | apply pw_below_drewN | apply below_drew1))
                                  case hbq5 => exact Below.size (by repeat (first | exact HN.out | exact Below.refl _ _ | apply below_alloc | apply pw_below_drewN | apply below_drew1))
                                  case hlq5 => have := HJ.out.2.2; have := HJ.out.2.1; simp; omega
                                  intro v1 w1 ho hb hg hat
                                  have H40 := Aside0.mk (blk_grown (g := wo.heap.size + 1) (o := .cells #[.int .i64 (rd l0 i)] 3) (by (repeat (first | (refine spec_l1Sort.heap_new ?_; simp; done) | exact H40.out | (with_reducible refine blk_alloc ?_ _)))) hg (by simp [Value.ownBlock]))
                                  have HO1 := Aside0.mk ho
                                  clear HN
                                  have HN := Aside0.mk hb
                                  clear ho hb hg hat
                                  refine hK.out _ _ ((Below.cell (by repeat (first | exact HN.out | exact Below.refl _ _ | apply below_alloc | apply pw_below_drewN | apply below_drew1)) HLT.out |>.trans HX.out)) (fun hHeld => ?_)
                                  clear hK K
                                  refine norm_ (a' := ?_) ?_ ?_
                                  rotate_left
                                  · show Act.put _ (some 35) _ = _
                                    simp only [Act.put, List.setIfInBounds_toArray, List.set_cons_zero, List.set_cons_succ, i64_w, i32_w]
                                    rfl
                                  exact norm_ (by simp only [putAll, Act.put, List.setIfInBounds_toArray, List.set_cons_zero, List.set_cons_succ]) (hCont (Value.slice (some ⟨wo.heap.size, 0, none⟩) 0 0, v1, Value.slice (some ⟨wo.heap.size + 1, 0, none⟩) 1 1) _ ⟨_, HO1.out, rfl, H40.out, (by repeat (first | exact HN.out | exact Below.refl _ _ | apply below_alloc | apply pw_below_drewN | apply below_drew1))⟩)
                              · skip
                                refine value_ (w1 := ?_) (v := ?_) (by rfl) rfl ?_ ?_
                                rotate_left 2
                                · go_simp
                                  constructor
                                  · rfl
                                  · rfl
                                refine hK.out _ _ ((Below.cell (by repeat (first | exact HN.out | exact Below.refl _ _ | apply below_alloc | apply pw_below_drewN | apply below_drew1)) HLT.out |>.trans HX.out)) (fun hHeld => ?_)
                                clear hK K
                                refine norm_ (a' := ?_) ?_ ?_
                                rotate_left
                                · show Act.put _ (some 40) _ = _
                                  simp only [Act.put, List.setIfInBounds_toArray, List.set_cons_zero, List.set_cons_succ, i64_w, i32_w]
                                  rfl
                                refine one_ (i := 0) (N := some 31) #[true, true, true, true, false, true, true, true, true, true, false, true, true, true, false, false] rfl rfl (by kernel_rfl) (by decide) (fun K hK => ?_)
                                refine value_ (w1 := ?_) (v := ?_) (by rfl) rfl ?_ ?_
                                rotate_left 2
                                · go_simp
                                  constructor
                                  · rfl
                                  · rfl
                                refine hK.out _ _ ((Below.cell (by repeat (first | exact HN.out | exact Below.refl _ _ | apply below_alloc | apply pw_below_drewN | apply below_drew1)) HLT.out |>.trans HX.out)) (fun hHeld => ?_)
                                clear hK K
                                refine norm_ (a' := ?_) ?_ ?_
                                rotate_left
                                · show Act.put _ (some 31) _ = _
                                  simp only [Act.put, List.setIfInBounds_toArray, List.set_cons_zero, List.set_cons_succ, i64_w, i32_w]
                                  rfl
                                refine one_ (i := 4) (N := some 35) #[true, true, true, true, true, true, true, true, true, true, false, true, true, true, false, false] rfl rfl (by kernel_rfl) (by decide) (fun K hK => ?_)
                                refine Kd.R_append_rows_step (Kd.int .i64) (Rr := fun x cs => cs = [.int .i64 x]) (w0 := wo) wo.heap.size (by rfl) (.tmp 31) (.tmp 34) 23 3 (.int .i64 0) 8 (by rfl) Tryz.underlying23 info3 (by rfl) (by decide) (by decide) (.slice (some ⟨wo.heap.size + 1, 0, none⟩) 0 0) ([]) (out.take jj.toNat) A jj.toNat c (fun _ => True) (fun _ => False) (by rfl) (by rfl) ?HOq8 ?HRq8 (fun _ _ h => h) (fun _ h => h.elim) (fun _ _ => trivial) ?HBq8 ?hbq8 ?hlq8 ?_
                                case HOq8 => (refine spec_l1Sort.row_none ?_ ?_; (first | exact spec_l1Sort.heap_new (by simp) | exact blk_alloc (spec_l1Sort.heap_new (by simp)) _); (first | exact Nat.le_refl _ | simp))
                                case HRq8 => exact Kd.C_below HT.out (by repeat (first | exact HN.out | exact Below.refl _ _ | apply below_alloc | apply pw_below_drewN | apply below_drew1))
                                case HBq8 => exact (by repeat (first | exact HN.out | exact Below.refl _ _ | apply below_alloc | apply pw_below_drewN | apply below_drew1))
                                case hbq8 => exact Below.size (by repeat (first | exact HN.out | exact Below.refl _ _ | apply below_alloc | apply pw_below_drewN | apply below_drew1))
                                case hlq8 => have := HJ.out.2.2; have := HJ.out.2.1; simp; omega
                                intro v1 w1 ho hb hg hat
                                have H40 := Aside0.mk (blk_grown (g := wo.heap.size) (o := .cells #[.int .i64 (rd l0 i)] 3) (by (repeat (first | (refine spec_l1Sort.heap_new ?_; simp; done) | exact H40.out | (with_reducible refine blk_alloc ?_ _)))) hg (by simp [Value.ownBlock]))
                                have HO1 := Aside0.mk ho
                                clear HN
                                have HN := Aside0.mk hb
                                clear ho hb hg hat
                                refine hK.out _ _ ((Below.cell (by repeat (first | exact HN.out | exact Below.refl _ _ | apply below_alloc | apply pw_below_drewN | apply below_drew1)) HLT.out |>.trans HX.out)) (fun hHeld => ?_)
                                clear hK K
                                refine norm_ (a' := ?_) ?_ ?_
                                rotate_left
                                · show Act.put _ (some 35) _ = _
                                  simp only [Act.put, List.setIfInBounds_toArray, List.set_cons_zero, List.set_cons_succ, i64_w, i32_w]
                                  rfl
                                exact norm_ (by simp only [putAll, Act.put, List.setIfInBounds_toArray, List.set_cons_zero, List.set_cons_succ]) (hCont (Value.slice (some ⟨wo.heap.size + 1, 0, none⟩) 0 0, v1, Value.slice (some ⟨wo.heap.size, 0, none⟩) 1 1) _ ⟨_, HO1.out, rfl, H40.out, (by repeat (first | exact HN.out | exact Below.refl _ _ | apply below_alloc | apply pw_below_drewN | apply below_drew1))⟩)
                            rintro ⟨v31, v35, v40⟩ w9 ⟨g40, ho, h40, hg, hb⟩
                            simp only at ho h40
                            subst h40
                            have HO1 := Aside0.mk ho
                            have H40 := Aside0.mk hg
                            clear HN
                            have HN := Aside0.mk hb
                            clear ho hg hb
                            have hHeld : w9.cell? (ad.add i.toNat) = some (.int .i64 (rd l0 i)) := (Below.cell (by repeat (first | exact HN.out | exact Below.refl _ _ | apply below_alloc | apply pw_below_drewN | apply below_drew1)) HLT.out |>.trans HX.out)
                            refine norm_ (a' := ?_) ?_ ?_
                            rotate_left
                            · simp only [putAll, Act.put, List.setIfInBounds_toArray, List.set_cons_zero, List.set_cons_succ]
                              rfl
                            refine one_ (i := 10) (N := some 41) #[true, true, true, true, true, true, true, true, true, true, true, true, true, true, false, false] rfl rfl (by kernel_rfl) (by decide) (fun K hK => ?_)
                            refine Kd.R_append_rows_step (Kd.int .i64) (Rr := fun x cs => cs = [.int .i64 x]) (w0 := wo) wo.heap.size (by rfl) (.tmp 35) (.tmp 40) 23 3 (.int .i64 0) 8 (by rfl) Tryz.underlying23 info3 (by rfl) (by decide) (by decide) _ ([] ++ out.take jj.toNat) ([rd l0 i]) _ 1 1 (fun _ => True) (fun _ => False) (by rfl) (by rfl) ?HOz2 ?HRz2 (fun _ _ h => h) (fun _ h => h.elim) (fun _ _ => trivial) ?HBz2 ?hbz2 ?hlz2 ?_
                            case HOz2 => exact HO1.out
                            case HRz2 => exact (Kd.R_reads' (spec_l1Sort.row_one H40.out (Nat.zero_le _))).2.2
                            case HBz2 => exact (by repeat (first | exact HN.out | exact Below.refl _ _ | apply below_alloc | apply pw_below_drewN | apply below_drew1))
                            case hbz2 => exact Below.size (by repeat (first | exact HN.out | exact Below.refl _ _ | apply below_alloc | apply pw_below_drewN | apply below_drew1))
                            case hlz2 => have := HJ.out.2.2; have := HJ.out.2.1; simp; omega
                            intro v1 w1 ho hb hg hat
                            have HO2 := Aside0.mk ho
                            clear HN
                            have HN := Aside0.mk hb
                            clear ho hb hg hat
                            refine hK.out _ _ ((Below.cell (by repeat (first | exact HN.out | exact Below.refl _ _ | apply below_alloc | apply pw_below_drewN | apply below_drew1)) HLT.out |>.trans HX.out)) (fun hHeld => ?_)
                            clear hK K
                            refine norm_ (a' := ?_) ?_ ?_
                            rotate_left
                            · show Act.put _ (some 41) _ = _
                              simp only [Act.put, List.setIfInBounds_toArray, List.set_cons_zero, List.set_cons_succ, i64_w, i32_w]
                              rfl
                            refine one_ (i := 14) (N := some 45) #[true, true, true, true, true, true, true, true, true, true, true, true, true, true, true, false] rfl rfl (by kernel_rfl) (by decide) (fun K hK => ?_)
                            refine Kd.R_append_rows_step (Kd.int .i64) (Rr := fun x cs => cs = [.int .i64 x]) (w0 := wo) wo.heap.size (by rfl) (.tmp 41) (.tmp 44) 23 3 (.int .i64 0) 8 (by rfl) Tryz.underlying23 info3 (by rfl) (by decide) (by decide) _ (([] ++ out.take jj.toNat) ++ [rd l0 i]) (out.drop jj.toNat) A2 (out.length - jj.toNat) (c - jj.toNat) (fun _ => True) (fun _ => False) (by rfl) (by rfl) ?HOz3 ?HRz3 (fun _ _ h => h) (fun _ h => h.elim) (fun _ _ => trivial) ?HBz3 ?hbz3 ?hlz3 ?_
                            case HOz3 => exact HO2.out
                            case HRz3 => exact Kd.C_below HD.out (by repeat (first | exact HN.out | exact Below.refl _ _ | apply below_alloc | apply pw_below_drewN | apply below_drew1))
                            case HBz3 => exact (by repeat (first | exact HN.out | exact Below.refl _ _ | apply below_alloc | apply pw_below_drewN | apply below_drew1))
                            case hbz3 => exact Below.size (by repeat (first | exact HN.out | exact Below.refl _ _ | apply below_alloc | apply pw_below_drewN | apply below_drew1))
                            case hlz3 => have := HJ.out.2.2; have := HJ.out.2.1; simp; omega
                            intro v1 w1 ho hb hg hat
                            have HO3 := Aside0.mk ho
                            clear HN
                            have HN := Aside0.mk hb
                            clear ho hb hg hat
                            refine hK.out _ _ ((Below.cell (by repeat (first | exact HN.out | exact Below.refl _ _ | apply below_alloc | apply pw_below_drewN | apply below_drew1)) HLT.out |>.trans HX.out)) (fun hHeld => ?_)
                            clear hK K
                            refine norm_ (a' := ?_) ?_ ?_
                            rotate_left
                            · show Act.put _ (some 45) _ = _
                              simp only [Act.put, List.setIfInBounds_toArray, List.set_cons_zero, List.set_cons_succ, i64_w, i32_w]
                              rfl
                            refine pure_ (i := 15) (N := some 3) (v := ?_) (a' := ?_) #[true, true, true, true, true, true, true, true, true, true, true, true, true, true, true, true] rfl rfl (by kernel_rfl) (fun _ _ _ h => h) (Or.inl ⟨by rfl, ?_⟩) ?_ ?_
                            rotate_left
                            · intro w'
                              go_simp
                              with_reducible rfl
                            rotate_left
                            · simp only [Act.put, List.setIfInBounds_toArray, List.set_cons_zero, List.set_cons_succ, i64_w, i32_w]
                              rfl
                            refine done_ (by kernel_rfl) ?_
                            clear hHeld
                            go_wp2
                            go_roundg k1
                            case measure => omega
                            case rel => exact ⟨_, wrap64 (i + 1), (by first | rfl | (simp; done) | (simp [*]; done)), H', ⟨by have := HK.out; omega⟩, ⟨Kd.R_lower HO3.out HB.out.size⟩, ⟨HB.out.trans (Below.mono HN.out HB.out.size)⟩⟩
                        · rw [if_neg d3] at H
                          exact absurd H (by simp)
                      · rw [if_neg d2] at H
                        exact absurd H (by simp)
                    · rw [if_neg d1] at H
                      have d1b : decide (0 < jj) = false := decide_eq_false d1
                      obtain rfl := Option.some.inj H
                      clear H
                      go_wp2
                      go_quiet (fail)
                      go_wp2
                      have HN := Aside0.mk (Below.refl wo.heap.size wo)
                      have hjl : jj.toNat ≤ out.length := by have := HJ.out.2.1; have := HJ.out.1; omega
                      obtain ⟨i0, hi0, _, hs0, _⟩ := info_parts info3
                      have hcut1 : ∀ W : World, (Instr.slice 23 (.slice A out.length c) none (some (.int .i64 jj)) none).run Tryz.prog W = .ok (.slice A jj.toNat c) W := cut_to (P := Tryz.prog) 23 3 .i64 Tryz.underlying23 hi0 A out.length c jj HJ.out.1 HJ.out.2.1 GC.out.1
                      obtain ⟨A2, hA2⟩ : ∃ x : Option Addr, (if c = jj.toNat then A else A.map (·.add (jj.toNat * 1))) = x := ⟨_, rfl⟩
                      have hcut2 : ∀ W : World, (Instr.slice 23 (.slice A out.length c) (some (.int .i64 jj)) none none).run Tryz.prog W = .ok (.slice A2 (out.drop jj.toNat).length (c - jj.toNat)) W := by
                        intro W
                        rw [← hA2, List.length_drop]
                        exact cut_from (P := Tryz.prog) 23 3 .i64 Tryz.underlying23 hi0 1 hs0 A out.length c jj HJ.out.1 HJ.out.2.1 W
                      have HT := Aside0.mk (Kd.R_reads' (Kd.R_take (m := jj.toNat) HO.out hjl)).2.2
                      have HD0 : Kd.C (Kd.int .i64) wo A2 (out.drop jj.toNat).length (out.drop jj.toNat) := hA2 ▸ Kd.C_drop GC.out.2 hjl GC.out.1
                      have HD : Aside0 (Kd.C (Kd.int .i64) wo A2 (out.length - jj.toNat) (out.drop jj.toNat)) := ⟨(List.length_drop (i := jj.toNat) (l := out)) ▸ HD0⟩
                      clear HD0
                      have hlt : (out.take jj.toNat).length = jj.toNat := by rw [List.length_take]; omega
                      rw [hlt] at HT
                      have HLT := Aside0.mk (World.block_lt_of_cell? _ _ HX.out)
                      clear hi0 hs0 hA2 hlt cx hjl
                      refine start_ (n := 16) (S := fun w' => w'.cell? (ad.add i.toNat) = some (.int .i64 (rd l0 i))) (ds := []) #[false, false, false, false, false, false, false, false, false, false, false, false, false, false, false, false] (by kernel_rfl) rfl rfl ((Below.cell (by repeat (first | exact HN.out | exact Below.refl _ _ | apply below_alloc | apply pw_below_drewN | apply below_drew1)) HLT.out |>.trans HX.out)) (fun hHeld => ?_)
                      refine pure_ (i := 1) (N := some 32) (v := ?_) (a' := ?_) #[false, true, false, false, false, false, false, false, false, false, false, false, false, false, false, false] rfl rfl (by kernel_rfl) (fun _ _ _ h => h) (Or.inl ⟨by rfl, ?_⟩) ?_ ?_
                      rotate_left
                      · intro w'
                        go_simp
                        with_reducible rfl
                      rotate_left
                      · simp only [Act.put, List.setIfInBounds_toArray, List.set_cons_zero, List.set_cons_succ, i64_w, i32_w]
                        rfl
                      refine pure_ (i := 2) (N := some 33) (v := ?_) (a' := ?_) #[false, true, true, false, false, false, false, false, false, false, false, false, false, false, false, false] rfl rfl (by kernel_rfl) (fun _ _ _ h => h) (Or.inl ⟨by rfl, ?_⟩) ?_ ?_
                      rotate_left
                      · intro w'
                        go_simp
                        with_reducible rfl
                      rotate_left
                      · simp only [Act.put, List.setIfInBounds_toArray, List.set_cons_zero, List.set_cons_succ, i64_w, i32_w]
                        rfl
                      refine pure_ (i := 3) (N := some 34) (v := ?_) (a' := ?_) #[false, true, true, true, false, false, false, false, false, false, false, false, false, false, false, false] rfl rfl (by kernel_rfl) (fun _ _ _ h => h) (Or.inl ⟨by rfl, ?_⟩) ?_ ?_
                      rotate_left
                      · intro w'
                        go_simp
                        with_reducible rfl
                      rotate_left
                      · simp only [Act.put, List.setIfInBounds_toArray, List.set_cons_zero, List.set_cons_succ, i64_w, i32_w]
                        rfl
                      refine pure_ (i := 5) (N := some 36) (v := ?_) (a' := ?_) #[false, true, true, true, false, true, false, false, false, false, false, false, false, false, false, false] rfl rfl (by kernel_rfl) (fun _ _ _ h => h) (Or.inl ⟨by rfl, ?_⟩) ?_ ?_
                      rotate_left
                      · intro w'
                        go_simp
                        with_reducible rfl
                      rotate_left
                      · simp only [Act.put, List.setIfInBounds_toArray, List.set_cons_zero, List.set_cons_succ, i64_w, i32_w]
                        rfl
                      refine pure_ (i := 6) (N := some 37) (v := ?_) (a' := ?_) #[false, true, true, true, false, true, true, false, false, false, false, false, false, false, false, false] rfl rfl (by kernel_rfl) (fun _ _ _ h => h) (Or.inl ⟨by rfl, ?_⟩) ?_ ?_
                      rotate_left
                      · intro w'
                        go_simp
                        with_reducible rfl
                      rotate_left
                      · simp only [Act.put, List.setIfInBounds_toArray, List.set_cons_zero, List.set_cons_succ, i64_w, i32_w]
                        rfl
                      refine pure_ (i := 7) (N := some 38) (v := ?_) (a' := ?_) #[false, true, true, true, false, true, true, true, false, false, false, false, false, false, false, false] rfl rfl (by kernel_rfl) (fun _ _ _ h => h) (Or.inl ⟨by rfl, ?_⟩) ?_ ?_
                      rotate_left
                      · intro w'
                        go_simp
                        with_reducible rfl
                      rotate_left
                      · simp only [Act.put, List.setIfInBounds_toArray, List.set_cons_zero, List.set_cons_succ, i64_w, i32_w]
                        rfl
                      refine pure_ (i := 11) (N := some 42) (v := ?_) (a' := ?_) #[false, true, true, true, false, true, true, true, false, false, false, true, false, false, false, false] rfl rfl (by kernel_rfl) (fun _ _ _ h => h) (Or.inl ⟨by rfl, ?_⟩) ?_ ?_
                      rotate_left
                      · intro w'
                        go_simp
                        with_reducible rfl
                      rotate_left
                      · simp only [Act.put, List.setIfInBounds_toArray, List.set_cons_zero, List.set_cons_succ, i64_w, i32_w]
                        rfl
                      refine pure_ (i := 12) (N := some 43) (v := ?_) (a' := ?_) #[false, true, true, true, false, true, true, true, false, false, false, true, true, false, false, false] rfl rfl (by kernel_rfl) (fun _ _ _ h => h) (Or.inl ⟨by rfl, ?_⟩) ?_ ?_
                      rotate_left
                      · intro w'
                        go_simp
                        with_reducible rfl
                      rotate_left
                      · simp only [Act.put, List.setIfInBounds_toArray, List.set_cons_zero, List.set_cons_succ, i64_w, i32_w]
                        rfl
                      refine pure_ (i := 13) (N := some 44) (v := ?_) (a' := ?_) #[false, true, true, true, false, true, true, true, false, false, false, true, true, true, false, false] rfl rfl (by kernel_rfl) (fun _ _ _ h => h) (Or.inl ⟨by rfl, ?_⟩) ?_ ?_
                      rotate_left
                      · intro w'
                        go_simp
                        with_reducible rfl
                      rotate_left
                      · simp only [Act.put, List.setIfInBounds_toArray, List.set_cons_zero, List.set_cons_succ, i64_w, i32_w]
                        rfl
                      refine take_ (i := 8) (N := some 39) (v := ?_) (a' := ?_) #[false, true, true, true, false, true, true, true, true, false, false, true, true, true, false, false] rfl rfl (by kernel_rfl) (fun _ _ _ h => h) (Or.inl ⟨by rfl, ?_⟩) hHeld ?_ ?_
                      rotate_left
                      · intro w' s0
                        go_simp
                        with_reducible rfl
                      rotate_left
                      · simp only [Act.put, List.setIfInBounds_toArray, List.set_cons_zero, List.set_cons_succ, i64_w, i32_w]
                        rfl
                      refine join_ (σ := Value × Value × Value) 3 #[true, true, true, true, true, true, true, true, true, true, false, true, true, true, false, false] (fun s => [(31, s.1), (35, s.2.1), (40, s.2.2)]) (fun s w' => ∃ g : Nat, Kd.R (Kd.int .i64) 3 w' wo.heap.size (fun _ => True) s.2.1 ([] ++ out.take jj.toNat) ∧ s.2.2 = .slice (some ⟨g, 0, none⟩) 1 1 ∧ w'.heap[g]? = some (.cells #[.int .i64 (rd l0 i)] 3 (0, 0)) ∧ Below wo.heap.size wo w') ?_ ?_
                      rotate_left
                      · intro hCont
                        refine two_ (i := 0) (j := 9) (Ni := some 31) (Nj := some 40) #[true, true, true, true, false, true, true, true, true, false, false, true, true, true, false, false] #[false, true, true, true, false, true, true, true, true, true, false, true, true, true, false, false] rfl rfl rfl rfl (by kernel_rfl) (by decide) (by decide) (fun K hK => ?_) (fun K hK => ?_)
                        · skip
                          refine value_ (w1 := ?_) (v := ?_) (by rfl) rfl ?_ ?_
                          rotate_left 2
                          · go_simp
                            constructor
                            · rfl
                            · rfl
                          refine hK.out _ _ ((Below.cell (by repeat (first | exact HN.out | exact Below.refl _ _ | apply below_alloc | apply pw_below_drewN | apply below_drew1)) HLT.out |>.trans HX.out)) (fun hHeld => ?_)
                          clear hK K
                          refine norm_ (a' := ?_) ?_ ?_
                          rotate_left
                          · show Act.put _ (some 31) _ = _
                            simp only [Act.put, List.setIfInBounds_toArray, List.set_cons_zero, List.set_cons_succ, i64_w, i32_w]
                            rfl
                          refine two_ (i := 4) (j := 9) (Ni := some 35) (Nj := some 40) #[true, true, true, true, true, true, true, true, true, false, false, true, true, true, false, false] #[true, true, true, true, false, true, true, true, true, true, false, true, true, true, false, false] rfl rfl rfl rfl (by kernel_rfl) (by decide) (by decide) (fun K hK => ?_) (fun K hK => ?_)
                          · skip
                            refine Kd.R_append_rows_step (Kd.int .i64) (Rr := fun x cs => cs = [.int .i64 x]) (w0 := wo) wo.heap.size (by rfl) (.tmp 31) (.tmp 34) 23 3 (.int .i64 0) 8 (by rfl) Tryz.underlying23 info3 (by rfl) (by decide) (by decide) (.slice (some ⟨wo.heap.size, 0, none⟩) 0 0) ([]) (out.take jj.toNat) A jj.toNat c (fun _ => True) (fun _ => False) (by rfl) (by rfl) ?HOq2 ?HRq2 (fun _ _ h => h) (fun _ h => h.elim) (fun _ _ => trivial) ?HBq2 ?hbq2 ?hlq2 ?_
                            case HOq2 => (refine spec_l1Sort.row_none ?_ ?_; (first | exact spec_l1Sort.heap_new (by simp) | exact blk_alloc (spec_l1Sort.heap_new (by simp)) _); (first | exact Nat.le_refl _ | simp))
                            case HRq2 => exact Kd.C_below HT.out (by repeat (first | exact HN.out | exact Below.refl _ _ | apply below_alloc | apply pw_below_drewN | apply below_drew1))
                            case HBq2 => exact (by repeat (first | exact HN.out | exact Below.refl _ _ | apply below_alloc | apply pw_below_drewN | apply below_drew1))
                            case hbq2 => exact Below.size (by repeat (first | exact HN.out | exact Below.refl _ _ | apply below_alloc | apply pw_below_drewN | apply below_drew1))
                            case hlq2 => have := HJ.out.2.2; have := HJ.out.2.1; simp; omega
                            intro v1 w1 ho hb hg hat
                            have HO1 := Aside0.mk ho
                            clear HN
                            have HN := Aside0.mk hb
                            clear ho hb hg hat
                            refine hK.out _ _ ((Below.cell (by repeat (first | exact HN.out | exact Below.refl _ _ | apply below_alloc | apply pw_below_drewN | apply below_drew1)) HLT.out |>.trans HX.out)) (fun hHeld => ?_)
                            clear hK K
                            refine norm_ (a' := ?_) ?_ ?_
                            rotate_left
                            · show Act.put _ (some 35) _ = _
                              simp only [Act.put, List.setIfInBounds_toArray, List.set_cons_zero, List.set_cons_succ, i64_w, i32_w]
                              rfl
                            refine one_ (i := 9) (N := some 40) #[true, true, true, true, true, true, true, true, true, true, false, true, true, true, false, false] rfl rfl (by kernel_rfl) (by decide) (fun K hK => ?_)
                            refine value_ (w1 := ?_) (v := ?_) (by rfl) rfl ?_ ?_
                            rotate_left 2
                            · go_simp
                              constructor
                              · rfl
                              · rfl
                            refine hK.out _ _ ((Below.cell (by repeat (first | exact HN.out | exact Below.refl _ _ | apply below_alloc | apply pw_below_drewN | apply below_drew1)) HLT.out |>.trans HX.out)) (fun hHeld => ?_)
                            clear hK K
                            refine norm_ (a' := ?_) ?_ ?_
                            rotate_left
                            · show Act.put _ (some 40) _ = _
                              simp only [Act.put, List.setIfInBounds_toArray, List.set_cons_zero, List.set_cons_succ, i64_w, i32_w]
                              rfl
                            exact norm_ (by simp only [putAll, Act.put, List.setIfInBounds_toArray, List.set_cons_zero, List.set_cons_succ]) (hCont (Value.slice (some ⟨wo.heap.size, 0, none⟩) 0 0, v1, Value.slice (some ⟨w1.heap.size, 0, none⟩) 1 1) _ ⟨_, (Kd.R_alloc HO1.out _), rfl, (spec_l1Sort.heap_new rfl), (by repeat (first | exact HN.out | exact Below.refl _ _ | apply below_alloc | apply pw_below_drewN | apply below_drew1))⟩)
                          · skip
                            refine value_ (w1 := ?_) (v := ?_) (by rfl) rfl ?_ ?_
                            rotate_left 2
                            · go_simp
                              constructor
                              · rfl
                              · rfl
                            refine hK.out _ _ ((Below.cell (by repeat (first | exact HN.out | exact Below.refl _ _ | apply below_alloc | apply pw_below_drewN | apply below_drew1)) HLT.out |>.trans HX.out)) (fun hHeld => ?_)
                            clear hK K
                            refine norm_ (a' := ?_) ?_ ?_
                            rotate_left
                            · show Act.put _ (some 40) _ = _
                              simp only [Act.put, List.setIfInBounds_toArray, List.set_cons_zero, List.set_cons_succ, i64_w, i32_w]
                              rfl
                            refine one_ (i := 4) (N := some 35) #[true, true, true, true, true, true, true, true, true, true, false, true, true, true, false, false] rfl rfl (by kernel_rfl) (by decide) (fun K hK => ?_)
                            refine Kd.R_append_rows_step (Kd.int .i64) (Rr := fun x cs => cs = [.int .i64 x]) (w0 := wo) wo.heap.size (by rfl) (.tmp 31) (.tmp 34) 23 3 (.int .i64 0) 8 (by rfl) Tryz.underlying23 info3 (by rfl) (by decide) (by decide) (.slice (some ⟨wo.heap.size, 0, none⟩) 0 0) ([]) (out.take jj.toNat) A jj.toNat c (fun _ => True) (fun _ => False) (by rfl) (by rfl) ?HOq5 ?HRq5 (fun _ _ h => h) (fun _ h => h.elim) (fun _ _ => trivial) ?HBq5 ?hbq5 ?hlq5 ?_
                            case HOq5 => (refine spec_l1Sort.row_none ?_ ?_; (first | exact spec_l1Sort.heap_new (by simp) | exact blk_alloc (spec_l1Sort.heap_new (by simp)) _); (first | exact Nat.le_refl _ | simp))
                            case HRq5 => exact Kd.C_below HT.out (by repeat (first | exact HN.out | exact Below.refl _ _ | apply below_alloc | apply pw_below_drewN | apply below_drew1))
                            case HBq5 => exact (by repeat (first | exact HN.out | exact Below.refl _ _ | apply below_alloc | apply pw_below_drewN | apply below_drew1))
                            case hbq5 => exact Below.size (by repeat (first | exact HN.out | exact Below.refl _ _ | apply below_alloc | apply pw_below_drewN | apply below_drew1))
                            case hlq5 => have := HJ.out.2.2; have := HJ.out.2.1; simp; omega
                            intro v1 w1 ho hb hg hat
                            have H40 := Aside0.mk (blk_grown (g := wo.heap.size + 1) (o := .cells #[.int .i64 (rd l0 i)] 3) (by (repeat (first | (refine spec_l1Sort.heap_new ?_; simp; done) | exact H40.out | (with_reducible refine blk_alloc ?_ _)))) hg (by simp [Value.ownBlock]))
                            have HO1 := Aside0.mk ho
                            clear HN
                            have HN := Aside0.mk hb
                            clear ho hb hg hat
                            refine hK.out _ _ ((Below.cell (by repeat (first | exact HN.out | exact Below.refl _ _ | apply below_alloc | apply pw_below_drewN | apply below_drew1)) HLT.out |>.trans HX.out)) (fun hHeld => ?_)
                            clear hK K
                            refine norm_ (a' := ?_) ?_ ?_
                            rotate_left
                            · show Act.put _ (some 35) _ = _
                              simp only [Act.put, List.setIfInBounds_toArray, List.set_cons_zero, List.set_cons_succ, i64_w, i32_w]
                              rfl
                            exact norm_ (by simp only [putAll, Act.put, List.setIfInBounds_toArray, List.set_cons_zero, List.set_cons_succ]) (hCont (Value.slice (some ⟨wo.heap.size, 0, none⟩) 0 0, v1, Value.slice (some ⟨wo.heap.size + 1, 0, none⟩) 1 1) _ ⟨_, HO1.out, rfl, H40.out, (by repeat (first | exact HN.out | exact Below.refl _ _ | apply below_alloc | apply pw_below_drewN | apply below_drew1))⟩)
                        · skip
                          refine value_ (w1 := ?_) (v := ?_) (by rfl) rfl ?_ ?_
                          rotate_left 2
                          · go_simp
                            constructor
                            · rfl
                            · rfl
                          refine hK.out _ _ ((Below.cell (by repeat (first | exact HN.out | exact Below.refl _ _ | apply below_alloc | apply pw_below_drewN | apply below_drew1)) HLT.out |>.trans HX.out)) (fun hHeld => ?_)
                          clear hK K
                          refine norm_ (a' := ?_) ?_ ?_
                          rotate_left
                          · show Act.put _ (some 40) _ = _
                            simp only [Act.put, List.setIfInBounds_toArray, List.set_cons_zero, List.set_cons_succ, i64_w, i32_w]
                            rfl
                          refine one_ (i := 0) (N := some 31) #[true, true, true, true, false, true, true, true, true, true, false, true, true, true, false, false] rfl rfl (by kernel_rfl) (by decide) (fun K hK => ?_)
                          refine value_ (w1 := ?_) (v := ?_) (by rfl) rfl ?_ ?_
                          rotate_left 2
                          · go_simp
                            constructor
                            · rfl
                            · rfl
                          refine hK.out _ _ ((Below.cell (by repeat (first | exact HN.out | exact Below.refl _ _ | apply below_alloc | apply pw_below_drewN | apply below_drew1)) HLT.out |>.trans HX.out)) (fun hHeld => ?_)
                          clear hK K
                          refine norm_ (a' := ?_) ?_ ?_
                          rotate_left
                          · show Act.put _ (some 31) _ = _
                            simp only [Act.put, List.setIfInBounds_toArray, List.set_cons_zero, List.set_cons_succ, i64_w, i32_w]
                            rfl
                          refine one_ (i := 4) (N := some 35) #[true, true, true, true, true, true, true, true, true, true, false, true, true, true, false, false] rfl rfl (by kernel_rfl) (by decide) (fun K hK => ?_)
                          refine Kd.R_append_rows_step (Kd.int .i64) (Rr := fun x cs => cs = [.int .i64 x]) (w0 := wo) wo.heap.size (by rfl) (.tmp 31) (.tmp 34) 23 3 (.int .i64 0) 8 (by rfl) Tryz.underlying23 info3 (by rfl) (by decide) (by decide) (.slice (some ⟨wo.heap.size + 1, 0, none⟩) 0 0) ([]) (out.take jj.toNat) A jj.toNat c (fun _ => True) (fun _ => False) (by rfl) (by rfl) ?HOq8 ?HRq8 (fun _ _ h => h) (fun _ h => h.elim) (fun _ _ => trivial) ?HBq8 ?hbq8 ?hlq8 ?_
                          case HOq8 => (refine spec_l1Sort.row_none ?_ ?_; (first | exact spec_l1Sort.heap_new (by simp) | exact blk_alloc (spec_l1Sort.heap_new (by simp)) _); (first | exact Nat.le_refl _ | simp))
                          case HRq8 => exact Kd.C_below HT.out (by repeat (first | exact HN.out | exact Below.refl _ _ | apply below_alloc | apply pw_below_drewN | apply below_drew1))
                          case HBq8 => exact (by repeat (first | exact HN.out | exact Below.refl _ _ | apply below_alloc | apply pw_below_drewN | apply below_drew1))
                          case hbq8 => exact Below.size (by repeat (first | exact HN.out | exact Below.refl _ _ | apply below_alloc | apply pw_below_drewN | apply below_drew1))
                          case hlq8 => have := HJ.out.2.2; have := HJ.out.2.1; simp; omega
                          intro v1 w1 ho hb hg hat
                          have H40 := Aside0.mk (blk_grown (g := wo.heap.size) (o := .cells #[.int .i64 (rd l0 i)] 3) (by (repeat (first | (refine spec_l1Sort.heap_new ?_; simp; done) | exact H40.out | (with_reducible refine blk_alloc ?_ _)))) hg (by simp [Value.ownBlock]))
                          have HO1 := Aside0.mk ho
                          clear HN
                          have HN := Aside0.mk hb
                          clear ho hb hg hat
                          refine hK.out _ _ ((Below.cell (by repeat (first | exact HN.out | exact Below.refl _ _ | apply below_alloc | apply pw_below_drewN | apply below_drew1)) HLT.out |>.trans HX.out)) (fun hHeld => ?_)
                          clear hK K
                          refine norm_ (a' := ?_) ?_ ?_
                          rotate_left
                          · show Act.put _ (some 35) _ = _
                            simp only [Act.put, List.setIfInBounds_toArray, List.set_cons_zero, List.set_cons_succ, i64_w, i32_w]
                            rfl
                          exact norm_ (by simp only [putAll, Act.put, List.setIfInBounds_toArray, List.set_cons_zero, List.set_cons_succ]) (hCont (Value.slice (some ⟨wo.heap.size + 1, 0, none⟩) 0 0, v1, Value.slice (some ⟨wo.heap.size, 0, none⟩) 1 1) _ ⟨_, HO1.out, rfl, H40.out, (by repeat (first | exact HN.out | exact Below.refl _ _ | apply below_alloc | apply pw_below_drewN | apply below_drew1))⟩)
                      rintro ⟨v31, v35, v40⟩ w9 ⟨g40, ho, h40, hg, hb⟩
                      simp only at ho h40
                      subst h40
                      have HO1 := Aside0.mk ho
                      have H40 := Aside0.mk hg
                      clear HN
                      have HN := Aside0.mk hb
                      clear ho hg hb
                      have hHeld : w9.cell? (ad.add i.toNat) = some (.int .i64 (rd l0 i)) := (Below.cell (by repeat (first | exact HN.out | exact Below.refl _ _ | apply below_alloc | apply pw_below_drewN | apply below_drew1)) HLT.out |>.trans HX.out)
                      refine norm_ (a' := ?_) ?_ ?_
                      rotate_left
                      · simp only [putAll, Act.put, List.setIfInBounds_toArray, List.set_cons_zero, List.set_cons_succ]
                        rfl
                      refine one_ (i := 10) (N := some 41) #[true, true, true, true, true, true, true, true, true, true, true, true, true, true, false, false] rfl rfl (by kernel_rfl) (by decide) (fun K hK => ?_)
                      refine Kd.R_append_rows_step (Kd.int .i64) (Rr := fun x cs => cs = [.int .i64 x]) (w0 := wo) wo.heap.size (by rfl) (.tmp 35) (.tmp 40) 23 3 (.int .i64 0) 8 (by rfl) Tryz.underlying23 info3 (by rfl) (by decide) (by decide) _ ([] ++ out.take jj.toNat) ([rd l0 i]) _ 1 1 (fun _ => True) (fun _ => False) (by rfl) (by rfl) ?HOz2 ?HRz2 (fun _ _ h => h) (fun _ h => h.elim) (fun _ _ => trivial) ?HBz2 ?hbz2 ?hlz2 ?_
                      case HOz2 => exact HO1.out
                      case HRz2 => exact (Kd.R_reads' (spec_l1Sort.row_one H40.out (Nat.zero_le _))).2.2
                      case HBz2 => exact (by repeat (first | exact HN.out | exact Below.refl _ _ | apply below_alloc | apply pw_below_drewN | apply below_drew1))
                      case hbz2 => exact Below.size (by repeat (first | exact HN.out | exact Below.refl _ _ | apply below_alloc | apply pw_below_drewN | apply below_drew1))
                      case hlz2 => have := HJ.out.2.2; have := HJ.out.2.1; simp; omega
                      intro v1 w1 ho hb hg hat
                      have HO2 := Aside0.mk ho
                      clear HN
                      have HN := Aside0.mk hb
                      clear ho hb hg hat
                      refine hK.out _ _ ((Below.cell (by repeat (first | exact HN.out | exact Below.refl _ _ | apply below_alloc | apply pw_below_drewN | apply below_drew1)) HLT.out |>.trans HX.out)) (fun hHeld => ?_)
                      clear hK K
                      refine norm_ (a' := ?_) ?_ ?_
                      rotate_left
                      · show Act.put _ (some 41) _ = _
                        simp only [Act.put, List.setIfInBounds_toArray, List.set_cons_zero, List.set_cons_succ, i64_w, i32_w]
                        rfl
                      refine one_ (i := 14) (N := some 45) #[true, true, true, true, true, true, true, true, true, true, true, true, true, true, true, false] rfl rfl (by kernel_rfl) (by decide) (fun K hK => ?_)
                      refine Kd.R_append_rows_step (Kd.int .i64) (Rr := fun x cs => cs = [.int .i64 x]) (w0 := wo) wo.heap.size (by rfl) (.tmp 41) (.tmp 44) 23 3 (.int .i64 0) 8 (by rfl) Tryz.underlying23 info3 (by rfl) (by decide) (by decide) _ (([] ++ out.take jj.toNat) ++ [rd l0 i]) (out.drop jj.toNat) A2 (out.length - jj.toNat) (c - jj.toNat) (fun _ => True) (fun _ => False) (by rfl) (by rfl) ?HOz3 ?HRz3 (fun _ _ h => h) (fun _ h => h.elim) (fun _ _ => trivial) ?HBz3 ?hbz3 ?hlz3 ?_
                      case HOz3 => exact HO2.out
                      case HRz3 => exact Kd.C_below HD.out (by repeat (first | exact HN.out | exact Below.refl _ _ | apply below_alloc | apply pw_below_drewN | apply below_drew1))
                      case HBz3 => exact (by repeat (first | exact HN.out | exact Below.refl _ _ | apply below_alloc | apply pw_below_drewN | apply below_drew1))
                      case hbz3 => exact Below.size (by repeat (first | exact HN.out | exact Below.refl _ _ | apply below_alloc | apply pw_below_drewN | apply below_drew1))
                      case hlz3 => have := HJ.out.2.2; have := HJ.out.2.1; simp; omega
                      intro v1 w1 ho hb hg hat
                      have HO3 := Aside0.mk ho
                      clear HN
                      have HN := Aside0.mk hb
                      clear ho hb hg hat
                      refine hK.out _ _ ((Below.cell (by repeat (first | exact HN.out | exact Below.refl _ _ | apply below_alloc | apply pw_below_drewN | apply below_drew1)) HLT.out |>.trans HX.out)) (fun hHeld => ?_)
                      clear hK K
                      refine norm_ (a' := ?_) ?_ ?_
                      rotate_left
                      · show Act.put _ (some 45) _ = _
                        simp only [Act.put, List.setIfInBounds_toArray, List.set_cons_zero, List.set_cons_succ, i64_w, i32_w]
                        rfl
                      refine pure_ (i := 15) (N := some 3) (v := ?_) (a' := ?_) #[true, true, true, true, true, true, true, true, true, true, true, true, true, true, true, true] rfl rfl (by kernel_rfl) (fun _ _ _ h => h) (Or.inl ⟨by rfl, ?_⟩) ?_ ?_
                      rotate_left
                      · intro w'
                        go_simp
                        with_reducible rfl
                      rotate_left
                      · simp only [Act.put, List.setIfInBounds_toArray, List.set_cons_zero, List.set_cons_succ, i64_w, i32_w]
                        rfl
                      refine done_ (by kernel_rfl) ?_
                      clear hHeld
                      go_wp2
                      go_roundg k1
                      case measure => omega
                      case rel => exact ⟨_, wrap64 (i + 1), (by first | rfl | (simp; done) | (simp [*]; done)), H', ⟨by have := HK.out; omega⟩, ⟨Kd.R_lower HO3.out HB.out.size⟩, ⟨HB.out.trans (Below.mono HN.out HB.out.size)⟩⟩
              · rw [if_neg c5] at H
                exact absurd H (by simp)
            · rw [if_neg c4] at H
              exact absurd H (by simp)
          · rw [if_neg c3] at H
            exact absurd H (by simp)
        · rw [if_neg c2] at H
          exact absurd H (by simp)
      · rw [if_neg c1] at H
        have c1b : decide (i < (l0.length : Int)) = false := decide_eq_false c1
        clear c1
        obtain rfl := Option.some.inj H
        go_wp2
        go_ret
        exact ⟨_, rfl, HO.out, HB.out⟩

end Go.Proofs.YtcmpkabpmmmhoaaGreatDoor.PFnExecuteProof
