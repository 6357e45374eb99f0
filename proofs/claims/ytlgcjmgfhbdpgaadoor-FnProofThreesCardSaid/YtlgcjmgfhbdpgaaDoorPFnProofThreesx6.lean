/- Written by a program of this claim out of the translation: plain Lean functions and their contracts; what is proved: each Go function of this text comes to what its Lean function says. -/
import Derived.Test.YtlgcjmgfhbdpgaaDoorPFnProofThreesx0
import Derived.Test.YtlgcjmgfhbdpgaaDoorPFnProofThreesx3
import Derived.Test.YtlgcjmgfhbdpgaaDoorPFnProofThreesx5
namespace Go.Proofs.YtlgcjmgfhbdpgaaDoor.PFnProofThrees
open Go.RowKit Go.Proofs.YtlgcjmgfhbdpgaaDoorW.PrintWords Go.Proofs.YtlgcjmgfhbdpgaaDoorW.PrintLast Go.Proofs.YtlgcjmgfhbdpgaaDoorW.PrintMore
attribute [local go_sem] max2_int min2_int max_two min_two max_three min_three max_four min_four   -- for this text's walks alone
set_option linter.unusedVariables false
set_option linter.unusedSimpArgs false

/-! ### impl_numbersText: function 20 -/
def impl_numbersText.l0 : Nat → ByteArray → List ByteArray → List Int → Int → Int → Option (ByteArray)
  | 0, _, _, _, _, _ => none
  | k + 1, x1, x5, x9, x10, x11 => if x11 < x10 then (if 0 ≤ x11 then (if x11 < (x9.length : Int) then ((strconv_Itoa_27.f (rd x9 x11)).bind fun t237 => (if x5.length < 8796093022208 then (impl_numbersText.l0 k x1 (x5 ++ [t237]) x9 x10 (wrap64 (x11 + 1))) else (none))) else (none)) else (none)) else ((strings_Join.f x5 x1).bind fun t241 => (some t241))
def impl_numbersText.f (k : Nat) (l0 : List Int) (a1 : ByteArray) : Option (ByteArray) := impl_numbersText.l0 k a1 (([] : List ByteArray)) l0 (l0.length : Int) 0
theorem impl_numbersText.mono_l : ∀ k, (∀ y0 y1 y2 y3 y4, LeO (impl_numbersText.l0 k y0 y1 y2 y3 y4) (impl_numbersText.l0 (k + 1) y0 y1 y2 y3 y4))
  | 0 => fun _ _ _ _ _ r h => by simp [impl_numbersText.l0] at h
  | k + 1 => by
    have ih0 := impl_numbersText.mono_l k
    · intro y0 y1 y2 y3 y4
      unfold impl_numbersText.l0
      repeat' first
      | (with_reducible exact ih0 _ _ _ _ _)
      | (with_reducible exact LeO.refl _)
      | (with_reducible exact LeO.none _)
      | (with_reducible refine LeO.ite ?_ ?_)
      | (with_reducible refine LeO.bind ?_ (fun _ => ?_))
      | exact ih0 _ _ _ _ _
      | exact LeO.none _
      | refine LeO.ite ?_ ?_
      | refine LeO.bind ?_ (fun _ => ?_)
theorem impl_numbersText.mono : ∀ a0 a1 k, LeO (impl_numbersText.f k a0 a1) (impl_numbersText.f (k + 1) a0 a1) := by
  intro a0 a1 k
  have ih0 := impl_numbersText.mono_l k
  unfold impl_numbersText.f
  repeat' first
      | (with_reducible exact ih0 _ _ _ _ _)
      | (with_reducible exact LeO.refl _)
      | (with_reducible exact LeO.none _)
      | (with_reducible refine LeO.ite ?_ ?_)
      | (with_reducible refine LeO.bind ?_ (fun _ => ?_))
      | exact ih0 _ _ _ _ _
      | exact LeO.none _
      | refine LeO.ite ?_ ?_
      | refine LeO.bind ?_ (fun _ => ?_)
set_option maxHeartbeats 8000000 in
set_option maxRecDepth 100000 in
theorem impl_numbersText.calls (k : Nat) (A0 : Option Addr) (c0 : Nat) (l0 : List Int) (a1 : ByteArray) (r : ByteArray) (w : World) (hr0 : Kd.C (Kd.int .i64) w A0 l0.length l0) (hc0 : l0.length ≤ c0) (h : impl_numbersText.f k l0 a1 = some r) (htab_ : TabW w) :
    Calls Tryd.prog 20 #[.slice A0 l0.length c0, .string a1] w fun e w' => e = .returned (.string r) ∧ Below w.heap.size w w' := by
  have HTAB_ := Aside0.mk htab_
  clear htab_
  have HR0 := Aside0.mk hr0
  have HC0 := Aside0.mk hc0
  clear hr0 hc0
  have HB := Aside0.mk (Below.refl w.heap.size w)
  have H : (impl_numbersText.l0 k a1 (([] : List ByteArray)) l0 (l0.length : Int) 0) = some r := h
  clear h
  obtain ⟨y233, hy233⟩ : ∃ y_ : List ByteArray, y_ = (([] : List ByteArray)) := ⟨_, rfl⟩
  replace H : (impl_numbersText.l0 k a1 y233 l0 (l0.length : Int) 0) = some r := by first | (rw [hy233]; with_reducible exact H) | (have H2_ := (Option.bind_some _ _).symm.trans H; rw [hy233]; with_reducible exact H2_) | (have H2_ := (Option.bind_some _ _).symm.trans H; with_reducible exact H2_) | with_reducible exact H | (rw [hy233]; exact H) | exact H
  have Ny233 := Aside0.mk hy233
  clear hy233
  have H' := Aside0.mk H
  clear H
  go_enter Tryd.func20, Tryd.ntmps20
  go_wp2_with (first | ((with_reducible refine gate_dst (N := 8) rfl ?_); refine Kd.R_lit Kd.string _ 9 ?hg (N := 8) ?hd (xs := ([] : List ByteArray)) (inner := []) (ok := fun _ => True) (okp := fun _ => True) ?hr ?hp (fun _ hk => hk) trivial (Below.refl _ _) (Nat.le_refl _) (by simp) ?_; (case hd => rfl); (case hg => rfl); (case hr => first | (go_simp; done) | (go_simp; rfl)); (case hp => exact (Reps.none _ _)); intro v234 w3 ho4 hb hg_ hnew_; clear hg_ hnew_; (first | rw [← Ny233.out] at ho4 | (simp only [Int.reduceToNat] at ho4; rw [← Ny233.out] at ho4)); have n0_ := Aside0.mk (Kd.R_lower ho4 (below_size (by repeat (first | (with_reducible first | exact HB.out | apply below_alloc | apply pw_below_drewN | apply below_drew1) | exact HB.out)))); have n1_ := Aside0.mk (below_step (by repeat (first | (with_reducible first | exact HB.out | apply below_alloc | apply pw_below_drewN | apply below_drew1) | exact HB.out)) hb); clear HB; have HO235 := n0_; have HB := n1_; clear n0_ n1_; clear hb ho4))
  go_loopg [5, 11] k (fun kq v5 v11 w' => ∃ (x5_1 : List ByteArray) (x11_1 : Int), v11 = .int .i64 x11_1 ∧ Aside0 (impl_numbersText.l0 kq a1 x5_1 l0 (l0.length : Int) x11_1 = some r) ∧ Aside0 (kq ≤ k) ∧ Aside0 (Kd.R Kd.string 9 w' w.heap.size (fun _ => True) v5 x5_1) ∧ Aside0 (Below w.heap.size w w'))
  case atStart => exact ⟨(y233), (0), (by first | rfl | (simp; done) | (simp [*]; done)), H', ⟨Nat.le_refl _⟩, ⟨by (with_reducible repeat (first | apply Kd.R_alloc | apply Kd.R_drewN | apply Kd.R_drew)); exact HO235.out⟩, ⟨by repeat (first | (with_reducible first | exact HB.out | apply below_alloc | apply pw_below_drewN | apply below_drew1) | exact HB.out)⟩⟩
  case round =>
    clear H'
    try clear c2
    try clear p2
    obtain ⟨x5_1, x11_1, rfl, HA, HK1, HO_5, HB⟩ := hrel
    cases gk with
    | zero => exact absurd HA.out (by simp [impl_numbersText.l0])
    | succ k1 =>
      have H := HA.out
      clear HA
      simp only [impl_numbersText.l0] at H
      by_cases c5 : x11_1 < (l0.length : Int)
      · rw [if_pos c5] at H
        have c5b0 : decide (x11_1 < (l0.length : Int)) = true := decide_eq_true c5
        clear c5
        by_cases c6 : 0 ≤ x11_1
        · rw [if_pos c6] at H
          have c6b0 : decide (0 ≤ x11_1) = true := decide_eq_true c6
          clear c6
          by_cases c7 : x11_1 < (l0.length : Int)
          · rw [if_pos c7] at H
            have c7b0 : decide (x11_1 < (l0.length : Int)) = true := decide_eq_true c7
            clear c7
            replace H := Option.bind_eq_some_iff.mp H
            obtain ⟨t237, A80, H⟩ := H
            replace H : (if x5_1.length < 8796093022208 then (impl_numbersText.l0 k1 a1 (x5_1 ++ [t237]) l0 (l0.length : Int) (wrap64 (x11_1 + 1))) else (none)) = some r := H
            have A8 := Aside0.mk A80
            clear A80
            by_cases c9 : x5_1.length < 8796093022208
            · rw [if_pos c9] at H
              have LMc9 := Aside0.mk c9
              clear c9
              obtain ⟨y238, hy238⟩ : ∃ y_ : List ByteArray, y_ = (x5_1 ++ [t237]) := ⟨_, rfl⟩
              replace H : (impl_numbersText.l0 k1 a1 y238 l0 (l0.length : Int) (wrap64 (x11_1 + 1))) = some r := by first | (rw [hy238]; with_reducible exact H) | (have H2_ := (Option.bind_some _ _).symm.trans H; rw [hy238]; with_reducible exact H2_) | (have H2_ := (Option.bind_some _ _).symm.trans H; with_reducible exact H2_) | with_reducible exact H | (rw [hy238]; exact H) | exact H
              have Ny238 := Aside0.mk hy238
              clear hy238
              have H' := Aside0.mk H
              clear H
              have p236 : 0 ≤ (x11_1 : Int) := of_decide_eq_true (by first | (with_reducible assumption) | assumption)
              have q236 : x11_1 < (l0.length : Int) := of_decide_eq_true (by first | (with_reducible assumption) | assumption)
              obtain ⟨ad236, e236, hx236_0⟩ := Kd.at_int HR0.out x11_1 p236 q236
              cases e236
              replace hx236_0 := (HB.out.cell (World.block_lt_of_cell? w _ hx236_0)).trans hx236_0
              replace p236 := eq_true p236
              replace q236 := eq_true q236
              go_wp2_with (first | ((with_reducible refine gate_callee (f := 27) rfl ?_); refine goesL_ (some 17) rfl rfl Tryd.func27 (by kernel_rfl) rfl #[.int .i64 (rd l0 x11_1)] rfl (by (try simp only [List.map_toArray, List.map_cons, List.map_nil]); first | done | rfl | (simp only [List.length_drop, List.length_take]; rfl)) ?_; (with_reducible refine (strconv_Itoa_27.calls (rd l0 x11_1) t237 _ A8.out (TabW.below HTAB_.out (by repeat (first | (with_reducible first | exact HB.out | apply below_alloc | apply pw_below_drewN | apply below_drew1) | exact HB.out)))).mono ?_); rintro e w10 ⟨rfl, hb⟩; refine ⟨_, rfl, ?_⟩; have n0_ := Aside0.mk (Kd.R_below (by (with_reducible repeat (first | apply Kd.R_alloc | apply Kd.R_drewN | apply Kd.R_drew)); exact HO_5.out) hb); have n1_ := Aside0.mk (below_step (by repeat (first | (with_reducible first | exact HB.out | apply below_alloc | apply pw_below_drewN | apply below_drew1) | exact HB.out)) hb); clear HO_5; clear HB; have HO_5 := n0_; have HB := n1_; clear n0_ n1_; (try clear hb); (try clear hb2); (try clear hk); (try clear hi)) | ((with_reducible refine gate_builtin (b := .append) (xs := #[.tmp 15, .tmp 18]) rfl ?_); at_builtin; refine Kd.R_append Kd.string (w0 := w) w.heap.size rfl (.tmp 15) (.tmp 18) 43 9 (.string ⟨#[]⟩) 16 rfl Tryd.underlying43 info9 rfl (by decide) (by omega) u5 x5_1 t237 [.string t237] (fun _ => True) (fun _ => False) rfl rfl ?aP (fun _ hk => hk.elim) ?aF ?aO ?aB ?aS ?aL ?_; (case aP => exact rfl); (case aB => exact (by repeat (first | (with_reducible first | exact HB.out | apply below_alloc | apply pw_below_drewN | apply below_drew1) | exact HB.out))); (case aF => exact (fun _ _ => trivial)); (case aO => exact (by (with_reducible repeat (first | apply Kd.R_alloc | apply Kd.R_drewN | apply Kd.R_drew)); exact HO_5.out)); (case aS => exact (below_size (by repeat (first | (with_reducible first | exact HB.out | apply below_alloc | apply pw_below_drewN | apply below_drew1) | exact HB.out)))); (case aL => have := LMc9.out; omega); intro v239 w11 ho hb hg hat; rw [← Ny238.out] at ho; have n0_ := Aside0.mk (hb); have n1_ := Aside0.mk (ho); clear HB; clear HO_5; have HB := n0_; have HO240 := n1_; clear n0_ n1_; clear ho hb hg hat))
              go_roundg k1
              case measure => have := HK1.out; omega
              case rel => exact ⟨(y238), (wrap64 (x11_1 + 1)), (by first | rfl | (simp; done) | (simp [*]; done)), H', ⟨by have := HK1.out; omega⟩, ⟨by (with_reducible repeat (first | apply Kd.R_alloc | apply Kd.R_drewN | apply Kd.R_drew)); exact HO240.out⟩, ⟨by repeat (first | (with_reducible first | exact HB.out | apply below_alloc | apply pw_below_drewN | apply below_drew1) | exact HB.out)⟩⟩
            · rw [if_neg c9] at H
              exact absurd H (by simp)
          · rw [if_neg c7] at H
            exact absurd H (by simp)
        · rw [if_neg c6] at H
          exact absurd H (by simp)
      · rw [if_neg c5] at H
        have c5b0 : decide (x11_1 < (l0.length : Int)) = false := decide_eq_false c5
        clear c5
        replace H := Option.bind_eq_some_iff.mp H
        obtain ⟨t241, A120, H⟩ := H
        replace H : (some t241) = some r := H
        have A12 := Aside0.mk A120
        clear A120
        obtain rfl := Option.some.inj H
        obtain ⟨Ao13, co13, eo13⟩ := Kd.R_slice HO_5.out
        subst eo13
        go_wp2_with (first | ((with_reducible refine gate_callee (f := 41) rfl ?_); refine goesL_ (some 23) rfl rfl Tryd.func41 (by kernel_rfl) rfl #[.slice Ao13 x5_1.length co13, .string a1] rfl (by (try simp only [List.map_toArray, List.map_cons, List.map_nil]); first | done | rfl | (simp only [List.length_drop, List.length_take]; rfl)) ?_; (with_reducible refine (strings_Join.calls _ _ x5_1 a1 t241 _ ?side1 ?side2 A12.out).mono ?_); (case side1 => repeat (first | exact (Kd.R_reads' HO_5.out).2.2 | (with_reducible refine Kd.C_alloc ?_ _) | (with_reducible refine Kd.C_drewN ?_ _) | (with_reducible refine Kd.C_drew ?_))); (case side2 => exact (Kd.R_reads' HO_5.out).2.1); rintro e w14 ⟨rfl, hb⟩; refine ⟨_, rfl, ?_⟩; have n0_ := Aside0.mk (Kd.R_below (by (with_reducible repeat (first | apply Kd.R_alloc | apply Kd.R_drewN | apply Kd.R_drew)); exact HO_5.out) hb); have n1_ := Aside0.mk (below_step (by repeat (first | (with_reducible first | exact HB.out | apply below_alloc | apply pw_below_drewN | apply below_drew1) | exact HB.out)) hb); clear HO_5; clear HB; have HO_5 := n0_; have HB := n1_; clear n0_ n1_; (try clear hb); (try clear hb2); (try clear hk); (try clear hi)))
        go_ret
        exact ⟨by first | rfl | (simp [errW_none, errW_some] <;> rfl) | (simp [*, errW_none, errW_some] <;> rfl) | (exfalso; simp_all; done), by repeat (first | (with_reducible first | exact HB.out | apply below_alloc | apply pw_below_drewN | apply below_drew1) | exact HB.out)⟩

/-! ### impl_ProofThrees: function 9 -/
def impl_ProofThrees.f (k : Nat) (l0 : List Int) : Option (ByteArray × Bool) := (impl_PartFirst.f k l0).bind fun bt242 => (if bt242.2 = true then ((impl_numbersText.f k bt242.1 (⟨#[32]⟩ : ByteArray)).bind fun t246 => (some (t246, true))) else (some ((⟨#[]⟩ : ByteArray), false)))
theorem impl_ProofThrees.mono : ∀ a0 k, LeO (impl_ProofThrees.f k a0) (impl_ProofThrees.f (k + 1) a0) := by
  intro a0 k
  unfold impl_ProofThrees.f
  repeat' first
      | (with_reducible exact impl_PartFirst.mono _ _)
      | (with_reducible exact impl_numbersText.mono _ _ _)
      | (with_reducible exact LeO.refl _)
      | (with_reducible exact LeO.none _)
      | (with_reducible refine LeO.ite ?_ ?_)
      | (with_reducible refine LeO.bind ?_ (fun _ => ?_))
      | exact impl_PartFirst.mono _ _
      | exact impl_numbersText.mono _ _ _
      | exact LeO.none _
      | refine LeO.ite ?_ ?_
      | refine LeO.bind ?_ (fun _ => ?_)
set_option maxHeartbeats 8000000 in
set_option maxRecDepth 100000 in
theorem impl_ProofThrees.calls (k : Nat) (A0 : Option Addr) (c0 : Nat) (l0 : List Int) (r1 : ByteArray) (r2 : Bool) (w : World) (hr0 : Kd.C (Kd.int .i64) w A0 l0.length l0) (hc0 : l0.length ≤ c0) (h : impl_ProofThrees.f k l0 = some (r1, r2)) (htab_ : TabW w) :
    Calls Tryd.prog 9 #[.slice A0 l0.length c0] w fun e w' => e = .returned (.tuple #[.string r1, .bool r2]) ∧ Below w.heap.size w w' := by
  have HTAB_ := Aside0.mk htab_
  clear htab_
  have HR0 := Aside0.mk hr0
  have HC0 := Aside0.mk hc0
  clear hr0 hc0
  have HB := Aside0.mk (Below.refl w.heap.size w)
  have H : ((impl_PartFirst.f k l0).bind fun bt242 => (if bt242.2 = true then ((impl_numbersText.f k bt242.1 (⟨#[32]⟩ : ByteArray)).bind fun t246 => (some (t246, true))) else (some ((⟨#[]⟩ : ByteArray), false)))) = some (r1, r2) := h
  clear h
  replace H := Option.bind_eq_some_iff.mp H
  obtain ⟨⟨t242, t243⟩, A20, H⟩ := H
  replace H : (if t243 = true then ((impl_numbersText.f k t242 (⟨#[32]⟩ : ByteArray)).bind fun t246 => (some (t246, true))) else (some ((⟨#[]⟩ : ByteArray), false))) = some (r1, r2) := H
  have A2 := Aside0.mk A20
  clear A20
  by_cases c3 : t243 = true
  · subst c3
    have H1 : ((impl_numbersText.f k t242 (⟨#[32]⟩ : ByteArray)).bind fun t246 => (some (t246, true))) = some (r1, r2) := by rw [if_pos rfl] at H; exact H
    clear H
    have H := H1
    clear H1
    replace H := Option.bind_eq_some_iff.mp H
    obtain ⟨t246, A40, H⟩ := H
    replace H : (some (t246, true)) = some (r1, r2) := H
    have A4 := Aside0.mk A40
    clear A40
    simp only [Option.some.injEq, Prod.mk.injEq] at H
    obtain ⟨rfl, rfl⟩ := H
    go_enter Tryd.func9, Tryd.ntmps9
    go_wp2_with (first | ((with_reducible refine gate_callee (f := 19) rfl ?_); refine goesL_ (some 8) rfl rfl Tryd.func19 (by kernel_rfl) rfl #[.slice A0 l0.length c0] rfl (by (try simp only [List.map_toArray, List.map_cons, List.map_nil]); first | done | rfl | (simp only [List.length_drop, List.length_take]; rfl)) ?_; (with_reducible refine (impl_PartFirst.calls k _ _ l0 t242 true _ ?side1 ?side2 A2.out).mono ?_); (case side1 => repeat (first | exact HR0.out | (with_reducible refine Kd.C_alloc ?_ _) | (with_reducible refine Kd.C_drewN ?_ _) | (with_reducible refine Kd.C_drew ?_))); (case side2 => exact HC0.out); rintro e w5 ⟨v244, rfl, ho0, hb⟩; refine ⟨_, rfl, ?_⟩; have n0_ := Aside0.mk (Kd.R_lower ho0 (below_size (by repeat (first | (with_reducible first | exact HB.out | apply below_alloc | apply pw_below_drewN | apply below_drew1) | exact HB.out)))); have n1_ := Aside0.mk (below_step (by repeat (first | (with_reducible first | exact HB.out | apply below_alloc | apply pw_below_drewN | apply below_drew1) | exact HB.out)) hb); clear HB; have HO245 := n0_; have HB := n1_; clear n0_ n1_; (try clear hb); (try clear hb2); (try clear hk); (try clear hi); (try clear ho0); obtain ⟨Ao6, co6, eo6⟩ := Kd.R_slice HO245.out; subst eo6) | ((with_reducible refine gate_callee (f := 20) rfl ?_); refine goesL_ (some 14) rfl rfl Tryd.func20 (by kernel_rfl) rfl #[.slice Ao6 t242.length co6, .string (⟨#[32]⟩ : ByteArray)] rfl (by (try simp only [List.map_toArray, List.map_cons, List.map_nil]); first | done | rfl | (simp only [List.length_drop, List.length_take]; rfl)) ?_; (with_reducible refine (impl_numbersText.calls k _ _ t242 (⟨#[32]⟩ : ByteArray) t246 _ ?side1 ?side2 A4.out (TabW.below HTAB_.out (by repeat (first | (with_reducible first | exact HB.out | apply below_alloc | apply pw_below_drewN | apply below_drew1) | exact HB.out)))).mono ?_); (case side1 => repeat (first | exact (Kd.R_reads' HO245.out).2.2 | (with_reducible refine Kd.C_alloc ?_ _) | (with_reducible refine Kd.C_drewN ?_ _) | (with_reducible refine Kd.C_drew ?_))); (case side2 => exact (Kd.R_reads' HO245.out).2.1); rintro e w7 ⟨rfl, hb⟩; refine ⟨_, rfl, ?_⟩; have n0_ := Aside0.mk (Kd.R_below (by (with_reducible repeat (first | apply Kd.R_alloc | apply Kd.R_drewN | apply Kd.R_drew)); exact HO245.out) hb); have n1_ := Aside0.mk (below_step (by repeat (first | (with_reducible first | exact HB.out | apply below_alloc | apply pw_below_drewN | apply below_drew1) | exact HB.out)) hb); clear HO245; clear HB; have HO245 := n0_; have HB := n1_; clear n0_ n1_; (try clear hb); (try clear hb2); (try clear hk); (try clear hi)))
    go_ret2
    exact ⟨by first | rfl | (simp [errW_none, errW_some] <;> rfl) | (simp [*, errW_none, errW_some] <;> rfl) | (exfalso; simp_all; done), by repeat (first | (with_reducible first | exact HB.out | apply below_alloc | apply pw_below_drewN | apply below_drew1) | exact HB.out)⟩
  · replace c3 := Bool.eq_false_iff.mpr c3
    subst c3
    have H1 : (some ((⟨#[]⟩ : ByteArray), false)) = some (r1, r2) := by rw [if_neg (show ¬ (false = true) by decide)] at H; exact H
    clear H
    have H := H1
    clear H1
    simp only [Option.some.injEq, Prod.mk.injEq] at H
    obtain ⟨rfl, rfl⟩ := H
    go_enter Tryd.func9, Tryd.ntmps9
    go_wp2_with (first | ((with_reducible refine gate_callee (f := 19) rfl ?_); refine goesL_ (some 8) rfl rfl Tryd.func19 (by kernel_rfl) rfl #[.slice A0 l0.length c0] rfl (by (try simp only [List.map_toArray, List.map_cons, List.map_nil]); first | done | rfl | (simp only [List.length_drop, List.length_take]; rfl)) ?_; (with_reducible refine (impl_PartFirst.calls k _ _ l0 t242 false _ ?side1 ?side2 A2.out).mono ?_); (case side1 => repeat (first | exact HR0.out | (with_reducible refine Kd.C_alloc ?_ _) | (with_reducible refine Kd.C_drewN ?_ _) | (with_reducible refine Kd.C_drew ?_))); (case side2 => exact HC0.out); rintro e w8 ⟨v244, rfl, ho0, hb⟩; refine ⟨_, rfl, ?_⟩; have n0_ := Aside0.mk (Kd.R_lower ho0 (below_size (by repeat (first | (with_reducible first | exact HB.out | apply below_alloc | apply pw_below_drewN | apply below_drew1) | exact HB.out)))); have n1_ := Aside0.mk (below_step (by repeat (first | (with_reducible first | exact HB.out | apply below_alloc | apply pw_below_drewN | apply below_drew1) | exact HB.out)) hb); clear HB; have HO245 := n0_; have HB := n1_; clear n0_ n1_; (try clear hb); (try clear hb2); (try clear hk); (try clear hi); (try clear ho0)))
    go_ret2
    exact ⟨by first | rfl | (simp [errW_none, errW_some] <;> rfl) | (simp [*, errW_none, errW_some] <;> rfl) | (exfalso; simp_all; done), by repeat (first | (with_reducible first | exact HB.out | apply below_alloc | apply pw_below_drewN | apply below_drew1) | exact HB.out)⟩

-- NOT PRINTED: function 75 (utf8_RuneCountInString)

-- NOT PRINTED: function 89 (utf8_decodeRuneInStringSlow)

-- NOT PRINTED: function 76 (utf8_DecodeRuneInString)

-- NOT PRINTED: function 60 (strings_explode)

-- NOT PRINTED: function 102 (bytealg_IndexByteString)

/-! ### stringslite_IndexByte: function 90, by hand -/
def stringslite_IndexByte.f (a0 : ByteArray) (a1 : Int) : Option Int := some (Lib.indexByte a0.data.toList a1.toNat.toUInt8)
set_option maxHeartbeats 1000000 in
set_option maxRecDepth 100000 in
theorem stringslite_IndexByte.calls (a0 : ByteArray) (a1 : Int) (r : Int) (w : World) (h : stringslite_IndexByte.f a0 a1 = some r) :
    Calls Tryd.prog 90 #[.string a0, .int .u8 a1] w fun e w' => e = .returned (.int .i64 r) ∧ Drawn0 w w' := by
  injection h with h
  subst h
  go_enter Tryd.func90, Tryd.ntmps90
  go_wp2
  rw [run_callFunc_extern Tryd.func102 (by kernel_rfl) (by kernel_rfl) (by kernel_rfl) (e := Extern.BytealgIndexByte.indexByte) (by kernel_rfl), Lib.run_indexByteString]
  simp only [Result.andThen]
  rw [Oper.upon_value]
  go_wp2
  go_ret
  exact ⟨rfl, Drawn0.refl _⟩

-- NOT PRINTED: function 91 (bytealg_IndexString)

-- NOT PRINTED: function 92 (bytealg_Cutover)

-- NOT PRINTED: function 103 (bytealg_hashStr_string)

-- NOT PRINTED: function 93 (bytealg_IndexRabinKarp_string)

-- NOT PRINTED: function 78 (stringslite_Index)

-- NOT PRINTED: function 62 (strings_Index)

-- NOT PRINTED: function 77 (bytealg_CountString)

-- NOT PRINTED: function 61 (strings_Count)

-- NOT PRINTED: function 46 (strings_genSplit)

/-! ### strings_Split: function 25, by hand over the shelf: a text cut at a byte -/
def strings_Split.f (s sep : ByteArray) : Option (List ByteArray) := if sep.size = 1 ∧ s.size ≤ 4194304 then some (Lib.splitB sep 0 (Lib.countB s sep) s) else none
theorem strings_Split.row {w : World} {g base : Nat} (xs : List ByteArray) (hl : xs.length ≤ 8388608) (h : w.heap[g]? = some (.cells (xs.map Value.string).toArray 9 (0, 0))) (hb : base ≤ g) : Kd.R Kd.string 9 w base (fun _ => True) (.slice (some ⟨g, 0, none⟩) xs.length xs.length) xs :=
  Kd.R_of_own (xs := xs) ⟨by simp [encs], Or.inr ⟨g, xs.length, (xs.map Value.string).toArray, rfl, hb, h, Nat.le_refl _, by unfold maxLen; omega, by simp, by
    rw [Nat.mul_one]
    show List.take xs.length (xs.map Value.string) = xs.map Value.string
    exact List.take_of_length_le (by simp)⟩⟩ (fun _ _ => trivial)
set_option maxHeartbeats 4000000 in
set_option maxRecDepth 100000 in
theorem strings_Split.calls (a0 : ByteArray) (a1 : ByteArray) (r : List ByteArray) (w : World) (h : strings_Split.f a0 a1 = some r) :
    Calls Tryd.prog 25 #[.string a0, .string a1] w fun e w' => ∃ v0_ : Value, e = .returned (v0_) ∧ Kd.R Kd.string 9 w' w.heap.size (fun _ => True) v0_ r ∧ Below w.heap.size w w' := by
  unfold strings_Split.f at h
  split at h
  · next hc =>
    obtain ⟨c, rfl⟩ := Lib.one_byte a1 hc.1
    injection h with h
    have hsz := hc.2
    have h1 : 1 ≤ (⟨#[c]⟩ : ByteArray).size := Nat.le_refl 1
    have hlen := Lib.splitB_all (⟨#[c]⟩ : ByteArray) h1 0 _ a0 rfl
    have hle := Lib.countB_le (⟨#[c]⟩ : ByteArray) h1 a0.size a0 (Nat.le_refl _)
    have hC := (Any.strings_Count_one Go.Proofs.YtlgcjmgfhbdpgaaDoor.Shelf.Tryd.lays138 a0 c w).mono (R' := fun e w' => e = .returned (.int .i64 (Lib.countB a0 ⟨#[c]⟩)) ∧ w' = w) fun e w' ⟨he, hw⟩ => ⟨by
      rw [he]
      show _ = Ending.returned (Value.int .i64 ((Lib.count a0.data.toList [c] : Nat) : Int))
      rw [Lib.count_one]
      rfl, hw⟩
    have hI : ∀ (x : ByteArray) (cs : Array Value), x.size ≤ a0.size → Calls Tryd.prog 62 #[.string x, .string ⟨#[c]⟩] (w.alloc (.cells cs 9)) fun e w' => e = .returned (.int .i64 (Lib.indexB x ⟨#[c]⟩)) ∧ w' = w.alloc (.cells cs 9) := fun x cs _ =>
      (Any.strings_Index_one Go.Proofs.YtlgcjmgfhbdpgaaDoor.Shelf.Tryd.lays143 x c _).mono fun e w' ⟨he, hw⟩ => ⟨by
        rw [he]
        show _ = Ending.returned (Value.int .i64 (Lib.index x.data.toList [c]))
        rw [Lib.index_one], hw⟩
    have core := Any.strings_genSplit_core Go.Proofs.YtlgcjmgfhbdpgaaDoor.Shelf.Tryd.lays221 (by kernel_rfl) a0 ⟨#[c]⟩ 0 (-1) (Lib.countB a0 ⟨#[c]⟩ + 1) w (by omega) h1 (Nat.zero_le _) hI hC (by decide) (by decide) (by rw [if_pos (by decide)]; omega)
    rw [Nat.add_sub_cancel, hlen] at core
    have e2 : Lib.cellsOf (Lib.splitB ⟨#[c]⟩ 0 (Lib.countB a0 ⟨#[c]⟩) a0) (Lib.countB a0 ⟨#[c]⟩ + 1) = ((Lib.splitB ⟨#[c]⟩ 0 (Lib.countB a0 ⟨#[c]⟩) a0).map Value.string).toArray := by rw [← hlen]; exact Lib.cellsOf_full _
    rw [e2, h] at core
    rw [h] at hlen
    have hn : Lib.countB a0 ⟨#[c]⟩ + 1 = r.length := hlen.symm
    rw [hn] at core
    have HC := Aside0.mk core
    have HL := Aside0.mk (show r.length ≤ 8388608 by omega)
    clear core hC hI e2 hn hlen hle hsz h1 h hc
    go_enter Tryd.func25, Tryd.ntmps25
    go_wp2_with (first | (go_at_call 46; refine HC.out.mono ?_; rintro e w1 ⟨rfl, hw⟩; subst hw))
    go_ret
    exact ⟨_, rfl, strings_Split.row r HL.out (heap_alloc_new w _) (Nat.le_refl _), below_alloc (Below.refl _ _) _⟩
  · simp at h

-- NOT PRINTED: function 94 (strconv_lower)

-- NOT PRINTED: function 95 (strconv_underscoreOK)

-- NOT PRINTED: function 79 (strconv_ParseUint)

-- NOT PRINTED: function 63 (strconv_ParseInt)

-- NOT PRINTED: function 47 (strconv_Atoi_47)

-- NOT PRINTED: function 80 (stringslite_Clone)

-- NOT PRINTED: function 64 (strconv_syntaxError)

-- NOT PRINTED: function 65 (strconv_rangeError)

-- NOT PRINTED: function 81 (errors_New)

-- NOT PRINTED: function 66 (strconv_baseError)

-- NOT PRINTED: function 67 (strconv_bitSizeError)

-- NOT PRINTED: function 48 (strconv_toError)

-- NOT PRINTED: function 26 (strconv_Atoi_26)

/-! ### slices_Equal_int_int: function 51 -/
def slices_Equal_int_int.l0 : Nat → List Int → List Int → Int → Int → Option (Bool)
  | 0, _, _, _, _ => none
  | k + 1, x0, x1, x12, x13 => if x13 < x12 then (if 0 ≤ x13 then (if x13 < (x0.length : Int) then (if x13 < (x1.length : Int) then (if (rd x0 x13) = (rd x1 x13) then (slices_Equal_int_int.l0 k x0 x1 x12 (wrap64 (x13 + 1))) else (some false)) else (none)) else (none)) else (none)) else (some true)
def slices_Equal_int_int.f (k : Nat) (l0 : List Int) (l1 : List Int) : Option (Bool) := if (l0.length : Int) = (l1.length : Int) then (slices_Equal_int_int.l0 k l0 l1 (l0.length : Int) 0) else (some false)
theorem slices_Equal_int_int.mono_l : ∀ k, (∀ y0 y1 y2 y3, LeO (slices_Equal_int_int.l0 k y0 y1 y2 y3) (slices_Equal_int_int.l0 (k + 1) y0 y1 y2 y3))
  | 0 => fun _ _ _ _ r h => by simp [slices_Equal_int_int.l0] at h
  | k + 1 => by
    have ih0 := slices_Equal_int_int.mono_l k
    · intro y0 y1 y2 y3
      unfold slices_Equal_int_int.l0
      repeat' first
      | (with_reducible exact ih0 _ _ _ _)
      | (with_reducible exact LeO.refl _)
      | (with_reducible exact LeO.none _)
      | (with_reducible refine LeO.ite ?_ ?_)
      | (with_reducible refine LeO.bind ?_ (fun _ => ?_))
      | exact ih0 _ _ _ _
      | exact LeO.none _
      | refine LeO.ite ?_ ?_
      | refine LeO.bind ?_ (fun _ => ?_)
theorem slices_Equal_int_int.mono : ∀ a0 a1 k, LeO (slices_Equal_int_int.f k a0 a1) (slices_Equal_int_int.f (k + 1) a0 a1) := by
  intro a0 a1 k
  have ih0 := slices_Equal_int_int.mono_l k
  unfold slices_Equal_int_int.f
  repeat' first
      | (with_reducible exact ih0 _ _ _ _)
      | (with_reducible exact LeO.refl _)
      | (with_reducible exact LeO.none _)
      | (with_reducible refine LeO.ite ?_ ?_)
      | (with_reducible refine LeO.bind ?_ (fun _ => ?_))
      | exact ih0 _ _ _ _
      | exact LeO.none _
      | refine LeO.ite ?_ ?_
      | refine LeO.bind ?_ (fun _ => ?_)
set_option maxHeartbeats 8000000 in
set_option maxRecDepth 100000 in
theorem slices_Equal_int_int.calls (k : Nat) (A0 : Option Addr) (c0 : Nat) (l0 : List Int) (A1 : Option Addr) (c1 : Nat) (l1 : List Int) (r : Bool) (w : World) (hr0 : Kd.C (Kd.int .i64) w A0 l0.length l0) (hc0 : l0.length ≤ c0) (hr1 : Kd.C (Kd.int .i64) w A1 l1.length l1) (hc1 : l1.length ≤ c1) (h : slices_Equal_int_int.f k l0 l1 = some r) :
    Calls Tryd.prog 51 #[.slice A0 l0.length c0, .slice A1 l1.length c1] w fun e w' => e = .returned (.bool r) ∧ Drawn0 w w' := by
  have HR0 := Aside0.mk hr0
  have HC0 := Aside0.mk hc0
  clear hr0 hc0
  have HR1 := Aside0.mk hr1
  have HC1 := Aside0.mk hc1
  clear hr1 hc1
  have H : (if (l0.length : Int) = (l1.length : Int) then (slices_Equal_int_int.l0 k l0 l1 (l0.length : Int) 0) else (some false)) = some r := h
  clear h
  by_cases c3 : (l0.length : Int) = (l1.length : Int)
  · rw [if_pos c3] at H
    have c3b0 : ((l0.length : Int) == (l1.length : Int)) = true := beq_iff_eq.mpr c3
    have c3b1 : ((l0.length : Int) != (l1.length : Int)) = false := bne_eq_false_iff_eq.mpr c3
    have c3b2 : (l0.length == l1.length) = true := by first | simpa using c3 | (simp at c3 ⊢; omega)
    clear c3
    have H' := Aside0.mk H
    clear H
    go_enter Tryd.func51, Tryd.ntmps51
    go_wp2
    repeat (go_quiet (fail); try go_wp2)
    go_loopg [13] k (fun kq v13 w' => ∃ (x13_1 : Int), v13 = .int .i64 x13_1 ∧ Aside0 (slices_Equal_int_int.l0 kq l0 l1 (l0.length : Int) x13_1 = some r) ∧ Aside0 (kq ≤ k) ∧ Drawn0 w w')
    case atStart => exact ⟨(0), (by first | rfl | (simp; done) | (simp [*]; done)), H', ⟨Nat.le_refl _⟩, by repeat (first | exact Drawn0.refl _ | apply Drawn0.step)⟩
    case round =>
      clear H'
      try clear c1
      try clear p2
      try clear c3
      try clear c3b0
      try clear c3b1
      try clear c3b2
      obtain ⟨x13_1, rfl, HA, HK1, ⟨m1, rfl⟩⟩ := hrel
      cases gk with
      | zero => exact absurd HA.out (by simp [slices_Equal_int_int.l0])
      | succ k1 =>
        have H := HA.out
        clear HA
        simp only [slices_Equal_int_int.l0] at H
        by_cases c4 : x13_1 < (l0.length : Int)
        · rw [if_pos c4] at H
          have c4b0 : decide (x13_1 < (l0.length : Int)) = true := decide_eq_true c4
          clear c4
          by_cases c5 : 0 ≤ x13_1
          · rw [if_pos c5] at H
            have c5b0 : decide (0 ≤ x13_1) = true := decide_eq_true c5
            clear c5
            by_cases c6 : x13_1 < (l0.length : Int)
            · rw [if_pos c6] at H
              have c6b0 : decide (x13_1 < (l0.length : Int)) = true := decide_eq_true c6
              clear c6
              by_cases c7 : x13_1 < (l1.length : Int)
              · rw [if_pos c7] at H
                have c7b0 : decide (x13_1 < (l1.length : Int)) = true := decide_eq_true c7
                clear c7
                by_cases c8 : (rd l0 x13_1) = (rd l1 x13_1)
                · rw [if_pos c8] at H
                  have c8b0 : ((rd l0 x13_1) == (rd l1 x13_1)) = true := beq_iff_eq.mpr c8
                  have c8b1 : ((rd l0 x13_1) != (rd l1 x13_1)) = false := bne_eq_false_iff_eq.mpr c8
                  clear c8
                  have H' := Aside0.mk H
                  clear H
                  have p252 : 0 ≤ (x13_1 : Int) := of_decide_eq_true (by first | (with_reducible assumption) | assumption)
                  have q252 : x13_1 < (l0.length : Int) := of_decide_eq_true (by first | (with_reducible assumption) | assumption)
                  obtain ⟨ad252, e252, hx252_0⟩ := Kd.at_int HR0.out x13_1 p252 q252
                  cases e252
                  replace p252 := eq_true p252
                  replace q252 := eq_true q252
                  have p253 : 0 ≤ (x13_1 : Int) := of_decide_eq_true (by first | (with_reducible assumption) | assumption)
                  have q253 : x13_1 < (l1.length : Int) := of_decide_eq_true (by first | (with_reducible assumption) | assumption)
                  obtain ⟨ad253, e253, hx253_0⟩ := Kd.at_int HR1.out x13_1 p253 q253
                  cases e253
                  replace p253 := eq_true p253
                  replace q253 := eq_true q253
                  go_wp2
                  repeat (go_quiet (fail); try go_wp2)
                  go_roundg k1
                  case measure => have := HK1.out; omega
                  case rel => exact ⟨(wrap64 (x13_1 + 1)), (by first | rfl | (simp; done) | (simp [*]; done)), H', ⟨by have := HK1.out; omega⟩, by repeat (first | exact Drawn0.refl _ | apply Drawn0.step)⟩
                · rw [if_neg c8] at H
                  have c8b0 : ((rd l0 x13_1) == (rd l1 x13_1)) = false := beq_eq_false_iff_ne.mpr c8
                  have c8b1 : ((rd l0 x13_1) != (rd l1 x13_1)) = true := bne_iff_ne.mpr c8
                  obtain rfl := Option.some.inj H
                  have p252 : 0 ≤ (x13_1 : Int) := of_decide_eq_true (by first | (with_reducible assumption) | assumption)
                  have q252 : x13_1 < (l0.length : Int) := of_decide_eq_true (by first | (with_reducible assumption) | assumption)
                  obtain ⟨ad252, e252, hx252_0⟩ := Kd.at_int HR0.out x13_1 p252 q252
                  cases e252
                  replace p252 := eq_true p252
                  replace q252 := eq_true q252
                  have p253 : 0 ≤ (x13_1 : Int) := of_decide_eq_true (by first | (with_reducible assumption) | assumption)
                  have q253 : x13_1 < (l1.length : Int) := of_decide_eq_true (by first | (with_reducible assumption) | assumption)
                  obtain ⟨ad253, e253, hx253_0⟩ := Kd.at_int HR1.out x13_1 p253 q253
                  cases e253
                  replace p253 := eq_true p253
                  replace q253 := eq_true q253
                  go_wp2
                  repeat (go_quiet (fail); try go_wp2)
                  go_ret
                  exact ⟨by first | rfl | (simp; done) | (simp [*]; done), by repeat (first | exact Drawn0.refl _ | apply Drawn0.step)⟩
              · rw [if_neg c7] at H
                exact absurd H (by simp)
            · rw [if_neg c6] at H
              exact absurd H (by simp)
          · rw [if_neg c5] at H
            exact absurd H (by simp)
        · rw [if_neg c4] at H
          have c4b0 : decide (x13_1 < (l0.length : Int)) = false := decide_eq_false c4
          clear c4
          obtain rfl := Option.some.inj H
          go_wp2
          repeat (go_quiet (fail); try go_wp2)
          go_ret
          exact ⟨by first | rfl | (simp; done) | (simp [*]; done), by repeat (first | exact Drawn0.refl _ | apply Drawn0.step)⟩
  · rw [if_neg c3] at H
    have c3b0 : ((l0.length : Int) == (l1.length : Int)) = false := beq_eq_false_iff_ne.mpr c3
    have c3b1 : ((l0.length : Int) != (l1.length : Int)) = true := bne_iff_ne.mpr c3
    have c3b2 : (l0.length == l1.length) = false := by first | simpa using c3 | (simp at c3 ⊢; omega)
    obtain rfl := Option.some.inj H
    go_enter Tryd.func51, Tryd.ntmps51
    go_wp2
    repeat (go_quiet (fail); try go_wp2)
    go_ret
    exact ⟨by first | rfl | (simp; done) | (simp [*]; done), by repeat (first | exact Drawn0.refl _ | apply Drawn0.step)⟩

-- NOT PRINTED: function 50 (impl_PartIs_1)

/-! ### impl_PartIs: function 28, by hand -/
def impl_PartIs.step (k : Nat) (l : List Int) (s : Bool) (xs : List Int) : Option Bool := if s = true then some true else slices_Equal_int_int.f k xs l
def impl_PartIs.f (k : Nat) (l l1 : List Int) : Option Bool :=
  (impl_StickIn.f k l).bind fun t => if t = true then (if (l1.length : Int) = (l.length : Int) then impl_parts.f (impl_PartIs.step k l1) k l false else some false) else some false
theorem impl_PartIs.mono_s (a : List Int) (k : Nat) : ∀ s l, LeO (impl_PartIs.step k a s l) (impl_PartIs.step (k + 1) a s l) := fun _ _ => LeO.ite (LeO.refl _) (slices_Equal_int_int.mono _ _ _)
theorem impl_PartIs.mono : ∀ a0 a1 k, LeO (impl_PartIs.f k a0 a1) (impl_PartIs.f (k + 1) a0 a1) := by
  intro a0 a1 k
  unfold impl_PartIs.f
  exact LeO.bind (impl_StickIn.mono _ _) (fun _ => LeO.ite (LeO.ite (impl_parts.mono (impl_PartIs.mono_s a1 k) _ _ _) (LeO.refl _)) (LeO.refl _))
theorem impl_PartIs.heap_new {W : World} {o : Obj} {g : Nat} (h : g = W.heap.size) : (W.alloc o).heap[g]? = some o := by
  subst h
  exact heap_alloc_new W o
def impl_PartIs.R (A0 : Option Addr) (n0 c0 g gb : Nat) (w0 : World) (s : Bool) (w1 : World) : Prop := w1.heap[g]? = some (.cells #[.bool s] 4 (0, 0)) ∧ w1.heap[gb]? = some (.cells #[.slice A0 n0 c0] 22 (0, 0)) ∧ Below w0.heap.size w0 w1
theorem impl_PartIs.moves {A0 : Option Addr} {n0 c0 g gb B1 : Nat} {w0 w1 w2 : World} {s : Bool} (h : impl_PartIs.R A0 n0 c0 g gb w0 s w1) (hb : Below B1 w1 w2) (h1 : g < B1) (h2 : gb < B1) (h3 : w0.heap.size ≤ B1) : impl_PartIs.R A0 n0 c0 g gb w0 s w2 :=
  ⟨(hb.block _ h1).trans h.1, (hb.block _ h2).trans h.2.1, h.2.2.trans (Below.mono hb h3)⟩
set_option maxHeartbeats 4000000 in
set_option maxRecDepth 100000 in
theorem impl_PartIs.tell (k : Nat) (l0 : List Int) (A0 : Option Addr) (c0 g gb : Nat) (w0 : World) (B1 : Nat) (s s' : Bool) (xs : List Int) (A : Option Addr) (c : Nat) (w1 : World) (hr0 : ∀ w', Below w0.heap.size w0 w' → Kd.C (Kd.int .i64) w' A0 l0.length l0) (hc0 : l0.length ≤ c0) (hg0 : w0.heap.size ≤ g) (hg : g < B1) (hR : impl_PartIs.R A0 l0.length c0 g gb w0 s w1) (hz : B1 ≤ w1.heap.size)
    (hx : Kd.C (Kd.int .i64) w1 A xs.length xs) (hc : xs.length ≤ c) (h : impl_PartIs.step k l0 s xs = some s') :
    Calls Tryd.prog 50 (#[.slice A xs.length c] ++ #[.pointer (some ⟨g, 0, none⟩), .pointer (some ⟨gb, 0, none⟩)]) w1 fun e w2 => e = .returned (.tuple #[]) ∧ impl_PartIs.R A0 l0.length c0 g gb w0 s' w2 ∧ Below w0.heap.size w1 w2 ∧ ∀ k, B1 ≤ k → k < w1.heap.size → w2.heap[k]? = w1.heap[k]? := by
  show Calls Tryd.prog 50 #[.slice A xs.length c, .pointer (some ⟨g, 0, none⟩), .pointer (some ⟨gb, 0, none⟩)] w1 _
  obtain ⟨hR1, hR3, hR2⟩ := hR
  have HX := Aside0.mk hx
  have HC := Aside0.mk hc
  have HA := Aside0.mk (And.intro (hr0 w1 hR2) hc0)
  have HR1 := Aside0.mk hR1
  have HR2 := Aside0.mk hR2
  have HR3 := Aside0.mk hR3
  have hne : gb ≠ g := blk_ne hR3 hR1 (by decide)
  have HG := Aside0.mk (And.intro hg0 (And.intro hg (And.intro hz hne)))
  have c0_ : _ = some _ := blk_cell hR1 0
  have c1_ : _ = some _ := blk_cell hR3 0
  have f0_ := blk_frozen hR1 0
  clear hx hc hR1 hR2 hR3 hg0 hg hz hr0 hc0 hne
  unfold impl_PartIs.step at h
  by_cases hs : s = true
  · subst hs
    rw [if_pos rfl] at h
    obtain rfl := Option.some.inj h
    clear h
    go_enter Tryd.func50, Tryd.ntmps50
    go_wp2
    go_end0
    exact ⟨rfl, ⟨blk_put HR1.out 0 _ rfl, blk_far HR3.out HG.out.2.2.2 _, HR2.out.setCell HG.out.1 _⟩, (Below.refl _ _).setCell HG.out.1 _, fun k h1 h2 => Below.heap_setCell _ _ _ k (by have := HG.out.2.1; simp; omega)⟩
  · replace hs := Bool.eq_false_iff.mpr hs
    subst hs
    rw [if_neg (by decide)] at h
    have H := Aside0.mk h
    clear h
    go_enter Tryd.func50, Tryd.ntmps50
    go_wp2_with (first | (go_at_call 51; refine (slices_Equal_int_int.calls k _ _ xs _ _ l0 s' _ HX.out HC.out HA.out.1 HA.out.2 H.out).mono ?_; rintro e w3 ⟨rfl, ⟨⟨n, rfl⟩⟩⟩))
    go_end0
    exact ⟨rfl, ⟨blk_put (blk_drewN HR1.out _) 0 _ rfl, blk_far (blk_drewN HR3.out _) HG.out.2.2.2 _, (pw_below_drewN HR2.out _).setCell HG.out.1 _⟩, (pw_below_drewN (Below.refl _ _) _).setCell HG.out.1 _, fun k h1 h2 => Below.heap_setCell _ _ _ k (by have := HG.out.2.1; simp; omega)⟩
set_option maxHeartbeats 4000000 in
set_option maxRecDepth 100000 in
theorem impl_PartIs.calls (k : Nat) (A0 : Option Addr) (c0 : Nat) (l0 : List Int) (A1_ : Option Addr) (c1 : Nat) (l1 : List Int) (r : Bool) (w : World) (hr0 : Kd.C (Kd.int .i64) w A0 l0.length l0) (hc0 : l0.length ≤ c0) (hr1 : Kd.C (Kd.int .i64) w A1_ l1.length l1) (hc1 : l1.length ≤ c1) (h : impl_PartIs.f k l0 l1 = some r) :
    Calls Tryd.prog 28 #[.slice A0 l0.length c0, .slice A1_ l1.length c1] w fun e w' => e = .returned (.bool r) ∧ Below w.heap.size w w' := by
  have HR0 := Aside0.mk hr0
  have HC0 := Aside0.mk hc0
  have HR1 := Aside0.mk hr1
  have HC1 := Aside0.mk hc1
  clear hr0 hc0 hr1 hc1
  have HB := Aside0.mk (Below.refl w.heap.size w)
  obtain ⟨t, h1, h⟩ := Option.bind_eq_some_iff.mp h
  have A1 := Aside0.mk h1
  clear h1
  by_cases c3 : t = true
  · subst c3
    rw [if_pos rfl] at h
    by_cases c4 : (l1.length : Int) = (l0.length : Int)
    · rw [if_pos c4] at h
      have c4b : ((l1.length : Int) != (l0.length : Int)) = false := bne_eq_false_iff_eq.mpr c4
      clear c4
      have A3 := Aside0.mk h
      clear h
      have hmf : ∀ (fn : Fn) (first cap : Array Value) (w : World), (Instr.makeFunc fn first cap).run Tryd.prog w = .ok (.func fn first cap) w := fun _ _ _ _ => rfl
      have hb0 : ∀ m, Below w.heap.size w (((w.alloc (Obj.cells #[.slice A1_ l1.length c1] 22)).drewN m).alloc (Obj.cells #[.bool false] 4)) := fun m => below_alloc (pw_below_drewN (below_alloc (Below.refl w.heap.size w) _) m) _
      have HBM := Aside0.mk hb0
      clear hb0
      go_enter Tryd.func28, Tryd.ntmps28
      go_wp2_with (first
        | (go_at_call 24; refine (impl_StickIn.calls k _ _ l0 true _ ?s1 HC0.out A1.out).mono ?_; (case s1 => repeat (first | exact HR0.out | (with_reducible refine Kd.C_alloc ?_ _) | (with_reducible refine Kd.C_drewN ?_ _) | (with_reducible refine Kd.C_drew ?_))); rintro e w1 ⟨rfl, ⟨⟨n, rfl⟩⟩⟩)
        | (go_at_call 34; refine (impl_parts.calls (impl_PartIs.step k l1) 50 _ Tryd.func50 (by kernel_rfl) rfl #[.pointer (some ⟨w.heap.size + 1, 0, none⟩), .pointer (some ⟨w.heap.size, 0, none⟩)] w.heap.size (impl_PartIs.R A1_ l1.length c1 (w.heap.size + 1) w.heap.size w) k A0 c0 l0 false r _ ?hm ?ht ?hB ?hr HC0.out ?hs A3.out).mono ?_; (case hm => exact fun s w1 w2 h1 h2 => impl_PartIs.moves h1 h2 (by simp; try omega) (by simp; try omega) (by simp; try omega)); (case ht => exact fun s s' xs A c w1 h1 hz hx hc h2 => impl_PartIs.tell k l1 A1_ c1 _ _ w _ s s' xs A c w1 (fun w' hb => Kd.C_below HR1.out hb) HC1.out (by omega) (by simp; try omega) h1 hz hx hc h2); (case hB => simp; try omega); (case hr => exact fun w' hb => Kd.C_below HR0.out (Below.trans (HBM.out _) hb)); (case hs => exact ⟨impl_PartIs.heap_new (by simp), blk_alloc (blk_drewN (heap_alloc_new w _) _) _, HBM.out _⟩); rintro e w2 ⟨rfl, hs, hb⟩; have c2 := blk_cell hs.1 0; have HB2 := Aside0.mk (Below.trans (HBM.out _) hb); clear hb hs))
      go_ret
      exact ⟨rfl, HB2.out⟩
    · rw [if_neg c4] at h
      have c4b : ((l1.length : Int) != (l0.length : Int)) = true := bne_iff_ne.mpr c4
      clear c4
      obtain rfl := Option.some.inj h
      go_enter Tryd.func28, Tryd.ntmps28
      go_wp2_with (first | (go_at_call 24; refine (impl_StickIn.calls k _ _ l0 true _ ?s1 HC0.out A1.out).mono ?_; (case s1 => repeat (first | exact HR0.out | (with_reducible refine Kd.C_alloc ?_ _) | (with_reducible refine Kd.C_drewN ?_ _) | (with_reducible refine Kd.C_drew ?_))); rintro e w1 ⟨rfl, ⟨⟨n, rfl⟩⟩⟩))
      go_ret
      exact ⟨rfl, by repeat (first | (with_reducible first | exact HB.out | apply below_alloc | apply pw_below_drewN | apply below_drew1) | exact HB.out)⟩
  · replace c3 := Bool.eq_false_iff.mpr c3
    subst c3
    rw [if_neg (by decide)] at h
    obtain rfl := Option.some.inj h
    go_enter Tryd.func28, Tryd.ntmps28
    go_wp2_with (first | (go_at_call 24; refine (impl_StickIn.calls k _ _ l0 false _ ?s1 HC0.out A1.out).mono ?_; (case s1 => repeat (first | exact HR0.out | (with_reducible refine Kd.C_alloc ?_ _) | (with_reducible refine Kd.C_drewN ?_ _) | (with_reducible refine Kd.C_drew ?_))); rintro e w1 ⟨rfl, ⟨⟨n, rfl⟩⟩⟩))
    go_ret
    exact ⟨rfl, by repeat (first | (with_reducible first | exact HB.out | apply below_alloc | apply pw_below_drewN | apply below_drew1) | exact HB.out)⟩

/-! ### impl_ProofThreesIs: function 12, by hand -/
/-- What a text is as a number, if it is one. -/
def impl_ProofThreesIs.num (s : ByteArray) : Option Int := match Lib.atoiAll s.data.toList with
  | .ok v => some v
  | _ => none
def impl_ProofThreesIs.l0 : Nat → List Int → List ByteArray → List Int → Int → Option (Option (List Int))
  | 0, _, _, _, _ => none
  | k + 1, l, ps, acc, i => if i < (ps.length : Int) then (if 0 ≤ i then (match impl_ProofThreesIs.num (rdOf ByteArray.empty ps i) with
    | none => some none
    | some n => if (⟨(Lib.itoa n).toArray⟩ : ByteArray) = rdOf ByteArray.empty ps i then (if (acc.length : Int) > (l.length : Int) then some none else (if acc.length < 1000 then impl_ProofThreesIs.l0 k l ps (acc ++ [n]) (wrap64 (i + 1)) else none)) else some none) else none) else some (some acc)
def impl_ProofThreesIs.f (k : Nat) (l : List Int) (s : ByteArray) : Option (Int × Bool) := (impl_StickIn.f k l).bind fun t => if t = true then ((strings_Split.f s (⟨#[32]⟩ : ByteArray)).bind fun ps => if (∀ p ∈ ps, p.size ≤ 4194304) then ((impl_ProofThreesIs.l0 k l ps [] 0).bind fun o => match o with
  | none => some (0, false)
  | some list => (impl_PartIs.f k l list).bind fun b => if b = true then ((slices_Max_int_int.f k list).bind fun m => some (wrap64 (m + 1), true)) else some (0, false)) else none) else some (0, false)
theorem impl_ProofThreesIs.mono_l : ∀ k, (∀ y0 y1 y2 y3, LeO (impl_ProofThreesIs.l0 k y0 y1 y2 y3) (impl_ProofThreesIs.l0 (k + 1) y0 y1 y2 y3))
  | 0 => fun _ _ _ _ r h => by simp [impl_ProofThreesIs.l0] at h
  | k + 1 => by
    have ih0 := impl_ProofThreesIs.mono_l k
    intro y0 y1 y2 y3
    rw [impl_ProofThreesIs.l0, impl_ProofThreesIs.l0]
    refine LeO.ite (LeO.ite ?_ (LeO.refl _)) (LeO.refl _)
    cases impl_ProofThreesIs.num (rdOf ByteArray.empty y1 y3) with
    | none => exact LeO.refl _
    | some n => exact LeO.ite (LeO.ite (LeO.refl _) (LeO.ite (ih0 _ _ _ _) (LeO.refl _))) (LeO.refl _)
theorem impl_ProofThreesIs.mono : ∀ a0 a1 k, LeO (impl_ProofThreesIs.f k a0 a1) (impl_ProofThreesIs.f (k + 1) a0 a1) := fun _ _ k => LeO.bind (impl_StickIn.mono _ _) (fun _ => LeO.ite (LeO.bind (LeO.refl _) (fun _ => LeO.ite (LeO.bind (impl_ProofThreesIs.mono_l k _ _ _ _) (fun o => by
  cases o with
  | none => exact LeO.refl _
  | some list => exact LeO.bind (impl_PartIs.mono _ _ _) (fun _ => LeO.ite (LeO.bind (slices_Max_int_int.mono _ _) (fun _ => LeO.refl _)) (LeO.refl _)))) (LeO.refl _))) (LeO.refl _))
theorem impl_ProofThreesIs.neq_no {q p : ByteArray} (h : q = p) : (q.toList == p.toList) = true := by
  rw [h]
  exact beq_iff_eq.mpr rfl
theorem impl_ProofThreesIs.neq_yes {q p : ByteArray} (h : ¬ q = p) : (q.toList == p.toList) = false := by
  rw [beq_eq_false_iff_ne]
  intro he
  rw [Lib.toList_data, Lib.toList_data] at he
  exact h (ByteArray.ext (Array.toList_inj.mp he))
theorem impl_ProofThreesIs.num_range {s : ByteArray} {n : Int} (h : impl_ProofThreesIs.num s = some n) : -9223372036854775808 ≤ n ∧ n ≤ 9223372036854775807 := by
  unfold impl_ProofThreesIs.num at h
  split at h
  · next v hv =>
    obtain rfl := Option.some.inj h
    unfold Lib.atoiAll at hv
    split at hv
    · cases hv
    · dsimp only at hv
      split at hv
      · cases hv
      · cases hv
      · next u hu =>
        split at hv
        · cases hv
        · next h1 =>
          split at hv
          · cases hv
          · next h2 =>
            injection hv with hv
            subst hv
            split
            · next h3 =>
              have : ¬ 9223372036854775808 < u := fun h => h2 ⟨h3, h⟩
              omega
            · next h3 =>
              have : ¬ 9223372036854775808 ≤ u := fun h => h1 ⟨h3, h⟩
              omega
  · cases h
theorem impl_ProofThreesIs.atoi_ok {s : ByteArray} {n : Int} (hs : s.size ≤ 4194304) (h : impl_ProofThreesIs.num s = some n) (w : World) : Calls Tryd.prog 26 #[.string s] w fun e w' => e = .returned (.tuple #[.int .i64 n, .nilIface]) ∧ Below w.heap.size w w' := by
  unfold impl_ProofThreesIs.num at h
  split at h
  · next v hv =>
    obtain rfl := Option.some.inj h
    refine (Go.Proofs.YtlgcjmgfhbdpgaaDoor.Shelf.Tryd.strconv_Atoi_ok s (by omega) v hv w).mono ?_
    rintro e w' ⟨rfl, rfl | ⟨t, rfl⟩⟩
    · exact ⟨rfl, Below.refl _ _⟩
    · exact ⟨rfl, ⟨rfl, rfl, rfl, by rw [Lib.bytesWorld_size]; omega, fun k hk => Lib.bytesWorld_at_old w _ t k hk⟩⟩
  · cases h
theorem impl_ProofThreesIs.atoi_err {s : ByteArray} (hs : s.size ≤ 4194304) (h : impl_ProofThreesIs.num s = none) (w : World) (htab_ : TabW w) : Calls Tryd.prog 26 #[.string s] w fun e w' => ∃ (v : Int) (te : Nat) (pe : Value), e = .returned (.tuple #[.int .i64 v, .iface te pe]) ∧ Below w.heap.size w w' := by
  unfold impl_ProofThreesIs.num at h
  split at h
  · cases h
  · next hv =>
    cases hc : Lib.atoiAll s.data.toList
    case ok v => exact absurd hc (hv v)
    case range =>
      obtain ⟨ev, h1, h2⟩ := htab_.2.2
      refine (Go.Proofs.YtlgcjmgfhbdpgaaDoor.Shelf.Tryd.strconv_Atoi_range s (by omega) hc ev w h1 h2).mono ?_
      rintro e w' ⟨N, rfl, _, _, hb⟩
      exact ⟨_, _, _, rfl, hb⟩
    obtain ⟨ev, h1, h2⟩ := htab_.2.1
    refine (Go.Proofs.YtlgcjmgfhbdpgaaDoor.Shelf.Tryd.strconv_Atoi_syntax s (by omega) hc ev w h1 h2).mono ?_
    rintro e w' ⟨N, rfl, _, _, hb⟩
    exact ⟨_, _, _, rfl, hb⟩
theorem impl_ProofThreesIs.kept {W W1 : World} {base : Nat} {u v : Value} {xs : List ByteArray} {acc : List Int} (hp : Kd.R Kd.string 9 W base (fun _ => True) u xs) (hv : Kd.R (Kd.int .i64) 3 W base (fun _ => True) v acc) (hg : W.grownBy W1 v.ownBlock) : Kd.R Kd.string 9 W1 base (fun _ => True) u xs :=
  Kd.R_mono (Kd.R_step (Kd.R_bound hp) (fun k hk hlt => hg.block k hlt (by
    obtain ⟨_, _, _, q, hq, cells, hc⟩ := hk
    have hq : q = 9 := by simpa [Kd.string, Kd.scalar] using hq
    subst hq
    exact Kd.R_ne hv hc (by decide)))) (fun _ _ => trivial)
theorem impl_ProofThreesIs.sized {ps : List ByteArray} (h : ∀ p ∈ ps, p.size ≤ 4194304) (i : Int) (h0 : 0 ≤ i) (h1 : i < (ps.length : Int)) : (rdOf ByteArray.empty ps i).size ≤ 4194304 := by
  have hl : i.toNat < ps.length := by omega
  refine h _ ?_
  have : rdOf ByteArray.empty ps i = ps[i.toNat] := by simp [rdOf, hl]
  rw [this]
  exact List.getElem_mem hl
set_option maxHeartbeats 8000000 in
set_option maxRecDepth 100000 in
theorem impl_ProofThreesIs.calls (k : Nat) (A0 : Option Addr) (c0 : Nat) (l0 : List Int) (a1 : ByteArray) (r1 : Int) (r2 : Bool) (w : World) (hr0 : Kd.C (Kd.int .i64) w A0 l0.length l0) (hc0 : l0.length ≤ c0) (h : impl_ProofThreesIs.f k l0 a1 = some (r1, r2)) (htab_ : TabW w) :
    Calls Tryd.prog 12 #[.slice A0 l0.length c0, .string a1] w fun e w' => e = .returned (.tuple #[.int .i64 r1, .bool r2]) ∧ Below w.heap.size w w' := by
  have HR0 := Aside0.mk hr0
  have HC0 := Aside0.mk hc0
  have HTAB_ := Aside0.mk htab_
  clear hr0 hc0 htab_
  have HB := Aside0.mk (Below.refl w.heap.size w)
  obtain ⟨t, h1, h⟩ := Option.bind_eq_some_iff.mp h
  have A1 := Aside0.mk h1
  clear h1
  by_cases c0_ : t = true
  · subst c0_
    rw [if_pos rfl] at h
    obtain ⟨ps, h2, h⟩ := Option.bind_eq_some_iff.mp h
    have A2 := Aside0.mk h2
    clear h2
    by_cases hsz : ∀ p ∈ ps, p.size ≤ 4194304
    · rw [if_pos hsz] at h
      have HSZ := Aside0.mk hsz
      clear hsz
      obtain ⟨o, h3, h⟩ := Option.bind_eq_some_iff.mp h
      have A3 := Aside0.mk h3
      have HF := Aside0.mk h
      clear h3 h
      obtain ⟨y0, hy0⟩ : ∃ y_ : List Int, y_ = ([] : List Int) := ⟨_, rfl⟩
      have Ny0 := Aside0.mk hy0
      clear hy0
      go_enter Tryd.func12, Tryd.ntmps12
      go_wp2_with (first
        | (go_at_call 24; refine (impl_StickIn.calls k _ _ l0 true _ (by repeat (first | exact HR0.out | (with_reducible refine Kd.C_alloc ?_ _) | (with_reducible refine Kd.C_drewN ?_ _) | (with_reducible refine Kd.C_drew ?_))) HC0.out A1.out).mono ?_; rintro e w1 ⟨rfl, ⟨⟨n, rfl⟩⟩⟩)
        | ((with_reducible refine gate_dst (N := 14) rfl ?_); (try (refine gate_guard (by rfl) ?_; dsimp only)); refine Kd.R_lit (Kd.int .i64) _ 3 ?hg (N := 14) ?hd (xs := ([] : List Int)) (inner := []) (ok := fun _ => True) (okp := fun _ => True) ?hr ?hp (fun _ hk => hk) trivial (Below.refl _ _) (Nat.le_refl _) (by simp) ?_; (case hd => rfl); (case hg => rfl); (case hr => first | (go_simp; done) | (go_simp; rfl)); (case hp => exact (Reps.none _ _)); intro v14 w14 ho hb hg_ hnew_; clear hg_ hnew_; have n0_ := Aside0.mk (Kd.R_lower ho (below_size (by repeat (first | exact HB.out | apply below_alloc | apply pw_below_drewN | apply below_drew1)))); have n1_ := Aside0.mk (below_step (by repeat (first | exact HB.out | apply below_alloc | apply pw_below_drewN | apply below_drew1)) hb); clear HB; have HO := n0_; have HB := n1_; clear n0_ n1_ ho hb)
        | (go_at_call 25; refine (strings_Split.calls a1 (⟨#[32]⟩ : ByteArray) ps _ A2.out).mono ?_; rintro e w2 ⟨v2, rfl, hr2, hb2⟩; have n0_ := Aside0.mk (Kd.R_below HO.out hb2); have n1_ := Aside0.mk (below_step (by repeat (first | exact HB.out | apply below_alloc | apply pw_below_drewN | apply below_drew1)) hb2); have n2_ := Aside0.mk (Kd.R_lower hr2 (below_size (by repeat (first | exact HB.out | apply below_alloc | apply pw_below_drewN | apply below_drew1)))); clear HO HB hr2 hb2; have HO := n0_; have HB := n1_; have HP := n2_; clear n0_ n1_ n2_; obtain ⟨Ap, cp, rfl⟩ := Kd.R_slice HP.out))
      go_loopg [6, 18] k (fun kq v6 v18 w' => ∃ (acc : List Int) (i : Int), v18 = .int .i64 i ∧ Aside0 (impl_ProofThreesIs.l0 kq l0 ps acc i = some o) ∧ Aside0 (kq ≤ k) ∧ Aside0 (Kd.R (Kd.int .i64) 3 w' w.heap.size (fun _ => True) v6 acc) ∧ Aside0 (Kd.R Kd.string 9 w' w.heap.size (fun _ => True) (.slice Ap ps.length cp) ps) ∧ Aside0 (Below w.heap.size w w'))
      case atStart => exact ⟨[], 0, (by first | rfl | (simp; done) | (simp [*]; done)), A3, ⟨Nat.le_refl _⟩, ⟨by (with_reducible repeat (first | apply Kd.R_alloc | apply Kd.R_drewN | apply Kd.R_drew)); exact HO.out⟩, ⟨by (with_reducible repeat (first | apply Kd.R_alloc | apply Kd.R_drewN | apply Kd.R_drew)); exact HP.out⟩, ⟨(by repeat (first | (with_reducible first | exact HB.out | apply below_alloc | apply pw_below_drewN | apply below_drew1) | exact HB.out))⟩⟩
      case round =>
        clear A3 HO HP HB
        obtain ⟨acc, i, rfl, HA, HK, HO, HP, HB⟩ := hrel
        obtain ⟨wo, rfl⟩ : ∃ x : World, x = wr := ⟨wr, rfl⟩
        cases gk with
        | zero => exact absurd HA.out (by simp [impl_ProofThreesIs.l0])
        | succ k1 =>
          have H := HA.out
          clear HA
          rw [impl_ProofThreesIs.l0] at H
          by_cases c1 : i < (ps.length : Int)
          · rw [if_pos c1] at H
            have c1b : decide (i < (ps.length : Int)) = true := decide_eq_true c1
            by_cases c2 : 0 ≤ i
            · rw [if_pos c2] at H
              have c2b : decide (0 ≤ i) = true := decide_eq_true c2
              obtain ⟨ad, ea, hx⟩ := Kd.at_string (Kd.R_reads' HP.out).2.2 i c2 c1
              cases ea
              have hlt := World.block_lt_of_cell? _ _ hx
              have HSP := Aside0.mk (show (rdOf ByteArray.empty ps i).size ≤ 4194304 from impl_ProofThreesIs.sized HSZ.out i c2 c1)
              obtain ⟨p, hp⟩ : ∃ x, x = rdOf ByteArray.empty ps i := ⟨_, rfl⟩
              rw [← hp] at hx H HSP
              clear hp
              have e1 := eq_true c1
              have e2 := eq_true c2
              clear c1 c2
              cases hn : impl_ProofThreesIs.num p with
              | none =>
                rw [hn] at H
                obtain rfl := Option.some.inj H
                have hf := HF.out
                simp only [Option.some.injEq, Prod.mk.injEq] at hf
                obtain ⟨rfl, rfl⟩ := hf
                have HN := Aside0.mk hn
                clear hn H HF
                go_wp2_with (first | (go_at_call 26; refine (impl_ProofThreesIs.atoi_err HSP.out HN.out _ (HTAB_.out.below (by repeat (first | (with_reducible first | exact HB.out | apply below_alloc | apply pw_below_drewN | apply below_drew1) | exact HB.out)))).mono ?_; rintro e w3 ⟨ve, te, pe, rfl, hb3⟩; have n0_ := Aside0.mk (below_step (by repeat (first | (with_reducible first | exact HB.out | apply below_alloc | apply pw_below_drewN | apply below_drew1) | exact HB.out)) hb3); clear HB hb3; have HB := n0_; clear n0_))
                go_ret2
                exact ⟨rfl, (by repeat (first | (with_reducible first | exact HB.out | apply below_alloc | apply pw_below_drewN | apply below_drew1) | exact HB.out))⟩
              | some n =>
                rw [hn] at H
                dsimp only at H
                have HN := Aside0.mk hn
                obtain ⟨q, hq⟩ : ∃ q : ByteArray, q = ⟨(Lib.itoa n).toArray⟩ := ⟨_, rfl⟩
                have HI := Aside0.mk (show strconv_Itoa_27.f n = some q from by unfold strconv_Itoa_27.f; rw [if_pos (impl_ProofThreesIs.num_range hn), hq])
                rw [← hq] at H
                clear hn hq
                by_cases c3 : q = p
                · rw [if_pos c3] at H
                  have he : (q.toList == p.toList) = true := impl_ProofThreesIs.neq_no c3
                  clear c3
                  by_cases c4 : (acc.length : Int) > (l0.length : Int)
                  · rw [if_pos c4] at H
                    have c4b : decide (l0.length < acc.length) = true := decide_eq_true (by omega)
                    clear c4
                    obtain rfl := Option.some.inj H
                    have hf := HF.out
                    simp only [Option.some.injEq, Prod.mk.injEq] at hf
                    obtain ⟨rfl, rfl⟩ := hf
                    clear H HF
                    obtain ⟨A6, c6, rfl⟩ := Kd.R_slice HO.out
                    go_wp2_with (first | (go_at_call 26; refine (impl_ProofThreesIs.atoi_ok HSP.out HN.out _).mono ?_; rintro e w3 ⟨rfl, hb3⟩; have n0_ := Aside0.mk (below_step (by repeat (first | (with_reducible first | exact HB.out | apply below_alloc | apply pw_below_drewN | apply below_drew1) | exact HB.out)) hb3); have n1_ := Aside0.mk (Kd.R_below HO.out hb3); have n2_ := Aside0.mk (Kd.R_below HP.out hb3); clear HB HO HP hb3; have HB := n0_; have HO := n1_; have HP := n2_; clear n0_ n1_ n2_) | (go_at_call 27; refine (strconv_Itoa_27.calls n q _ HI.out (HTAB_.out.below (by repeat (first | (with_reducible first | exact HB.out | apply below_alloc | apply pw_below_drewN | apply below_drew1) | exact HB.out)))).mono ?_; rintro e w4 ⟨rfl, hb4⟩; have n0_ := Aside0.mk (below_step (by repeat (first | (with_reducible first | exact HB.out | apply below_alloc | apply pw_below_drewN | apply below_drew1) | exact HB.out)) hb4); have n1_ := Aside0.mk (Kd.R_below HO.out hb4); have n2_ := Aside0.mk (Kd.R_below HP.out hb4); clear HB HO HP hb4; have HB := n0_; have HO := n1_; have HP := n2_; clear n0_ n1_ n2_))
                    go_ret2
                    exact ⟨rfl, (by repeat (first | (with_reducible first | exact HB.out | apply below_alloc | apply pw_below_drewN | apply below_drew1) | exact HB.out))⟩
                  · rw [if_neg c4] at H
                    have c4b : decide (l0.length < acc.length) = false := decide_eq_false (by omega)
                    clear c4
                    by_cases c5 : acc.length < 1000
                    · rw [if_pos c5] at H
                      have LM := Aside0.mk c5
                      clear c5
                      have H' := Aside0.mk H
                      clear H HF
                      obtain ⟨A6, c6, rfl⟩ := Kd.R_slice HO.out
                      go_wp2_with (first | (go_at_call 26; refine (impl_ProofThreesIs.atoi_ok HSP.out HN.out _).mono ?_; rintro e w3 ⟨rfl, hb3⟩; have n0_ := Aside0.mk (below_step (by repeat (first | (with_reducible first | exact HB.out | apply below_alloc | apply pw_below_drewN | apply below_drew1) | exact HB.out)) hb3); have n1_ := Aside0.mk (Kd.R_below HO.out hb3); have n2_ := Aside0.mk (Kd.R_below HP.out hb3); clear HB HO HP hb3; have HB := n0_; have HO := n1_; have HP := n2_; clear n0_ n1_ n2_) | (go_at_call 27; refine (strconv_Itoa_27.calls n q _ HI.out (HTAB_.out.below (by repeat (first | (with_reducible first | exact HB.out | apply below_alloc | apply pw_below_drewN | apply below_drew1) | exact HB.out)))).mono ?_; rintro e w4 ⟨rfl, hb4⟩; have n0_ := Aside0.mk (below_step (by repeat (first | (with_reducible first | exact HB.out | apply below_alloc | apply pw_below_drewN | apply below_drew1) | exact HB.out)) hb4); have n1_ := Aside0.mk (Kd.R_below HO.out hb4); have n2_ := Aside0.mk (Kd.R_below HP.out hb4); clear HB HO HP hb4; have HB := n0_; have HO := n1_; have HP := n2_; clear n0_ n1_ n2_) | ((with_reducible refine gate_builtin (b := .append) (xs := #[.tmp 42, .tmp 44]) rfl ?_); at_builtin; refine Kd.R_append (Kd.int .i64) (w0 := w) w.heap.size rfl (.tmp 42) (.tmp 44) 22 3 (.int .i64 0) 8 rfl Tryd.underlying22 info3 rfl (by decide) (by omega) (.slice A6 acc.length c6) acc n [.int .i64 n] (fun _ => True) (fun _ => False) rfl rfl ?aP (fun _ hk => hk.elim) ?aF ?aO ?aB ?aS ?aL ?_; (case aP => exact rfl); (case aB => exact (by repeat (first | (with_reducible first | exact HB.out | apply below_alloc | apply pw_below_drewN | apply below_drew1) | exact HB.out))); (case aF => exact (fun _ _ => trivial)); (case aO => exact (by (with_reducible repeat (first | apply Kd.R_alloc | apply Kd.R_drewN | apply Kd.R_drew)); exact HO.out)); (case aS => exact (Below.size (by repeat (first | (with_reducible first | exact HB.out | apply below_alloc | apply pw_below_drewN | apply below_drew1) | exact HB.out)))); (case aL => have := LM.out; omega); intro v161 w16 ho hb hg hat; have n2_ := Aside0.mk (impl_ProofThreesIs.kept (by (with_reducible repeat (first | apply Kd.R_alloc | apply Kd.R_drewN | apply Kd.R_drew)); exact HP.out) (by (with_reducible repeat (first | apply Kd.R_alloc | apply Kd.R_drewN | apply Kd.R_drew)); exact HO.out) hg); have n0_ := Aside0.mk hb; have n1_ := Aside0.mk ho; clear HB HO HP; have HB := n0_; have HO := n1_; have HP := n2_; clear n0_ n1_ n2_; clear ho hb hg hat))
                      go_roundg k1
                      case measure => have := HK.out; omega
                      case rel => exact ⟨acc ++ [n], wrap64 (i + 1), (by first | rfl | (simp; done) | (simp [*]; done)), H', ⟨by have := HK.out; omega⟩, ⟨by (with_reducible repeat (first | apply Kd.R_alloc | apply Kd.R_drewN | apply Kd.R_drew)); exact HO.out⟩, ⟨by (with_reducible repeat (first | apply Kd.R_alloc | apply Kd.R_drewN | apply Kd.R_drew)); exact HP.out⟩, ⟨(by repeat (first | (with_reducible first | exact HB.out | apply below_alloc | apply pw_below_drewN | apply below_drew1) | exact HB.out))⟩⟩
                    · rw [if_neg c5] at H
                      exact absurd H (by simp)
                · rw [if_neg c3] at H
                  have he : (q.toList == p.toList) = false := impl_ProofThreesIs.neq_yes c3
                  clear c3
                  obtain rfl := Option.some.inj H
                  have hf := HF.out
                  simp only [Option.some.injEq, Prod.mk.injEq] at hf
                  obtain ⟨rfl, rfl⟩ := hf
                  clear H HF
                  go_wp2_with (first | (go_at_call 26; refine (impl_ProofThreesIs.atoi_ok HSP.out HN.out _).mono ?_; rintro e w3 ⟨rfl, hb3⟩; have n0_ := Aside0.mk (below_step (by repeat (first | (with_reducible first | exact HB.out | apply below_alloc | apply pw_below_drewN | apply below_drew1) | exact HB.out)) hb3); have n1_ := Aside0.mk (Kd.R_below HO.out hb3); have n2_ := Aside0.mk (Kd.R_below HP.out hb3); clear HB HO HP hb3; have HB := n0_; have HO := n1_; have HP := n2_; clear n0_ n1_ n2_) | (go_at_call 27; refine (strconv_Itoa_27.calls n q _ HI.out (HTAB_.out.below (by repeat (first | (with_reducible first | exact HB.out | apply below_alloc | apply pw_below_drewN | apply below_drew1) | exact HB.out)))).mono ?_; rintro e w4 ⟨rfl, hb4⟩; have n0_ := Aside0.mk (below_step (by repeat (first | (with_reducible first | exact HB.out | apply below_alloc | apply pw_below_drewN | apply below_drew1) | exact HB.out)) hb4); have n1_ := Aside0.mk (Kd.R_below HO.out hb4); have n2_ := Aside0.mk (Kd.R_below HP.out hb4); clear HB HO HP hb4; have HB := n0_; have HO := n1_; have HP := n2_; clear n0_ n1_ n2_))
                  go_ret2
                  exact ⟨rfl, (by repeat (first | (with_reducible first | exact HB.out | apply below_alloc | apply pw_below_drewN | apply below_drew1) | exact HB.out))⟩
            · rw [if_neg c2] at H
              exact absurd H (by simp)
          · rw [if_neg c1] at H
            have c1b : decide (i < (ps.length : Int)) = false := decide_eq_false c1
            clear c1
            obtain rfl := Option.some.inj H
            have hf := HF.out
            clear H HF
            obtain ⟨b, h4, hf⟩ := Option.bind_eq_some_iff.mp hf
            have A4 := Aside0.mk h4
            obtain ⟨A6, c6, rfl⟩ := Kd.R_slice HO.out
            clear h4
            by_cases c6_ : b = true
            · subst c6_
              rw [if_pos rfl] at hf
              obtain ⟨m, h5, hf⟩ := Option.bind_eq_some_iff.mp hf
              have A5 := Aside0.mk h5
              clear h5
              simp only [Option.some.injEq, Prod.mk.injEq] at hf
              obtain ⟨hm, rfl⟩ := hf
              have hmw : (IntKind.i64.wrap (m + 1)) = r1 := (i64_w _).trans hm
              clear hm
              go_wp2_with (first | (go_at_call 28; refine (impl_PartIs.calls k _ _ l0 A6 c6 acc _ _ (Kd.C_below HR0.out (by repeat (first | (with_reducible first | exact HB.out | apply below_alloc | apply pw_below_drewN | apply below_drew1) | exact HB.out))) HC0.out (Kd.R_reads' HO.out).2.2 (Kd.R_reads' HO.out).2.1 A4.out).mono ?_; rintro e w5 ⟨rfl, hb5⟩; have n0_ := Aside0.mk (below_step (by repeat (first | (with_reducible first | exact HB.out | apply below_alloc | apply pw_below_drewN | apply below_drew1) | exact HB.out)) hb5); have n1_ := Aside0.mk (Kd.R_below HO.out hb5); clear HB HO hb5; have HB := n0_; have HO := n1_; clear n0_ n1_) | (go_at_call 29; refine (slices_Max_int_int.calls k A6 c6 acc m _ (Kd.R_reads' HO.out).2.2 (Kd.R_reads' HO.out).2.1 A5.out).mono ?_; rintro e w6 ⟨rfl, ⟨⟨n6, rfl⟩⟩⟩))
              go_ret2
              exact ⟨rfl, (by repeat (first | (with_reducible first | exact HB.out | apply below_alloc | apply pw_below_drewN | apply below_drew1) | exact HB.out))⟩
            · replace c6_ := Bool.eq_false_iff.mpr c6_
              subst c6_
              rw [if_neg (by decide)] at hf
              simp only [Option.some.injEq, Prod.mk.injEq] at hf
              obtain ⟨rfl, rfl⟩ := hf
              go_wp2_with (first | (go_at_call 28; refine (impl_PartIs.calls k _ _ l0 A6 c6 acc _ _ (Kd.C_below HR0.out (by repeat (first | (with_reducible first | exact HB.out | apply below_alloc | apply pw_below_drewN | apply below_drew1) | exact HB.out))) HC0.out (Kd.R_reads' HO.out).2.2 (Kd.R_reads' HO.out).2.1 A4.out).mono ?_; rintro e w5 ⟨rfl, hb5⟩; have n0_ := Aside0.mk (below_step (by repeat (first | (with_reducible first | exact HB.out | apply below_alloc | apply pw_below_drewN | apply below_drew1) | exact HB.out)) hb5); have n1_ := Aside0.mk (Kd.R_below HO.out hb5); clear HB HO hb5; have HB := n0_; have HO := n1_; clear n0_ n1_))
              go_ret2
              exact ⟨rfl, (by repeat (first | (with_reducible first | exact HB.out | apply below_alloc | apply pw_below_drewN | apply below_drew1) | exact HB.out))⟩
    · rw [if_neg hsz] at h
      exact absurd h (by simp)
  · replace c0_ := Bool.eq_false_iff.mpr c0_
    subst c0_
    rw [if_neg (by decide)] at h
    simp only [Option.some.injEq, Prod.mk.injEq] at h
    obtain ⟨rfl, rfl⟩ := h
    go_enter Tryd.func12, Tryd.ntmps12
    go_wp2_with (first
      | (go_at_call 24; refine (impl_StickIn.calls k _ _ l0 false _ (by repeat (first | exact HR0.out | (with_reducible refine Kd.C_alloc ?_ _) | (with_reducible refine Kd.C_drewN ?_ _) | (with_reducible refine Kd.C_drew ?_))) HC0.out A1.out).mono ?_; rintro e w1 ⟨rfl, ⟨⟨n, rfl⟩⟩⟩))
    go_ret2
    exact ⟨rfl, (by repeat (first | exact HB.out | apply below_alloc | apply pw_below_drewN | apply below_drew1))⟩

end Go.Proofs.YtlgcjmgfhbdpgaaDoor.PFnProofThrees
