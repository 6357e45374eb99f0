/- Written by a program of this claim out of the translation: plain Lean functions and their contracts; what is proved: each Go function of this text comes to what its Lean function says. -/
import Derived.Test.YtcbbeokiolecmaaPFnExactPartRoundx0
import Derived.Test.YtcbbeokiolecmaaPFnExactPartRoundx1
import Derived.Test.YtcbbeokiolecmaaPFnExactPartRoundx2
import Derived.Test.YtcbbeokiolecmaaPFnExactPartRoundx3
import Derived.Test.YtcbbeokiolecmaaPFnExactPartRoundx5
namespace Go.Proofs.Ytcbbeokiolecmaa.PFnExactPartRound
open Go.RowKit Go.Proofs.YtcbbeokiolecmaaW.PrintWords Go.Proofs.YtcbbeokiolecmaaW.PrintLast Go.Proofs.YtcbbeokiolecmaaW.PrintMore
attribute [local go_sem] max2_int min2_int max_two min_two max_three min_three max_four min_four   -- for this text's walks alone
set_option linter.unusedVariables false
set_option linter.unusedSimpArgs false

/-! ### impl_PartRound: function 22, by hand -/
def impl_PartRound.step (k : Nat) (a : List Int) (s : Int) (xs : List Int) : Option Int := (impl_sumsOf.f k a xs).bind fun l => (impl_sum.f k l).bind fun t => some (mx s t)
def impl_PartRound.f (k : Nat) (l : List Int) : Option (Int × Bool) :=
  (impl_StickIn.f k l).bind fun t => if t = true then ((impl_parts.f (impl_PartRound.step k l) k l 0).bind fun r => some (r, true)) else some (0, false)
theorem impl_PartRound.mono_s (a : List Int) (k : Nat) : ∀ s l, LeO (impl_PartRound.step k a s l) (impl_PartRound.step (k + 1) a s l) := fun _ _ => LeO.bind (impl_sumsOf.mono _ _ _) (fun _ => LeO.bind (impl_sum.mono _ _) (fun _ => LeO.refl _))
theorem impl_PartRound.mono : ∀ a0 k, LeO (impl_PartRound.f k a0) (impl_PartRound.f (k + 1) a0) := by
  intro a0 k
  unfold impl_PartRound.f
  exact LeO.bind (impl_StickIn.mono _ _) (fun _ => LeO.ite (LeO.bind (impl_parts.mono (impl_PartRound.mono_s a0 k) _ _ _) (fun _ => LeO.refl _)) (LeO.refl _))
theorem impl_PartRound.heap_new {W : World} {o : Obj} {g : Nat} (h : g = W.heap.size) : (W.alloc o).heap[g]? = some o := by
  subst h
  exact heap_alloc_new W o
/-- What holds between the calls of the function that is told: the number's own cell. -/
def impl_PartRound.R (A0 : Option Addr) (n0 c0 g gb : Nat) (w0 : World) (s : Int) (w1 : World) : Prop := w1.heap[g]? = some (.cells #[.int .i64 s] 3 (0, 0)) ∧ w1.heap[gb]? = some (.cells #[.slice A0 n0 c0] 22 (0, 0)) ∧ Below w0.heap.size w0 w1
theorem impl_PartRound.moves {A0 : Option Addr} {n0 c0 g gb B1 : Nat} {w0 w1 w2 : World} {s : Int} (h : impl_PartRound.R A0 n0 c0 g gb w0 s w1) (hb : Below B1 w1 w2) (h1 : g < B1) (h2 : gb < B1) (h3 : w0.heap.size ≤ B1) : impl_PartRound.R A0 n0 c0 g gb w0 s w2 :=
  ⟨(hb.block _ h1).trans h.1, (hb.block _ h2).trans h.2.1, h.2.2.trans (Below.mono hb h3)⟩
set_option maxHeartbeats 4000000 in
set_option maxRecDepth 100000 in
theorem impl_PartRound.tell (k : Nat) (l0 : List Int) (A0 : Option Addr) (c0 g gb : Nat) (w0 : World) (B1 : Nat) (s s' : Int) (xs : List Int) (A : Option Addr) (c : Nat) (w1 : World) (hr0 : ∀ w', Below w0.heap.size w0 w' → Kd.C (Kd.int .i64) w' A0 l0.length l0) (hc0 : l0.length ≤ c0) (hg0 : w0.heap.size ≤ g) (hgb : w0.heap.size ≤ gb) (hg : g < B1) (hR : impl_PartRound.R A0 l0.length c0 g gb w0 s w1) (hz : B1 ≤ w1.heap.size)
    (hx : Kd.C (Kd.int .i64) w1 A xs.length xs) (hc : xs.length ≤ c) (h : impl_PartRound.step k l0 s xs = some s') :
    Calls Try.prog 46 (#[.slice A xs.length c] ++ #[.pointer (some ⟨g, 0, none⟩), .pointer (some ⟨gb, 0, none⟩)]) w1 fun e w2 => e = .returned (.tuple #[]) ∧ impl_PartRound.R A0 l0.length c0 g gb w0 s' w2 ∧ Below w0.heap.size w1 w2 ∧ ∀ k, B1 ≤ k → k < w1.heap.size → w2.heap[k]? = w1.heap[k]? := by
  show Calls Try.prog 46 #[.slice A xs.length c, .pointer (some ⟨g, 0, none⟩), .pointer (some ⟨gb, 0, none⟩)] w1 _
  obtain ⟨sm, h1, h⟩ := Option.bind_eq_some_iff.mp h
  obtain ⟨t, h2, h⟩ := Option.bind_eq_some_iff.mp h
  have h := Option.some.inj h
  have hm_ : (if s < t then t else s) = s' := h
  have H1 := Aside0.mk h1
  have H2 := Aside0.mk h2
  clear h1 h2 h
  obtain ⟨hR1, hR3, hR2⟩ := hR
  have HX := Aside0.mk hx
  have HC := Aside0.mk hc
  have HA := Aside0.mk (And.intro (hr0 w1 hR2) hc0)
  have HR1 := Aside0.mk hR1
  have HR2 := Aside0.mk hR2
  have HR3 := Aside0.mk hR3
  have hne : gb ≠ g := blk_ne hR3 hR1 (by decide)
  have HG := Aside0.mk (And.intro hg0 (And.intro hg (And.intro hz hne)))
  have c0_ : _ = some _ := blk_cell hR1 0
  have c1_ : _ = some _ := blk_cell hR3 0
  have f0_ := blk_frozen hR1 0
  clear hx hc hR1 hR2 hR3 hg0 hg hz hr0 hc0 hgb hne
  go_enter Try.func46, Try.ntmps46
  go_region_with (first | (go_at_call 47; refine (impl_sumsOf.calls k _ _ l0 _ _ xs sm _ ?a1 HA.out.2 ?a2 HC.out H1.out).mono ?_; (case a1 => repeat (first | exact HA.out.1 | (with_reducible refine Kd.C_drewN ?_ _) | (with_reducible refine Kd.C_drew ?_))); (case a2 => repeat (first | exact HX.out | (with_reducible refine Kd.C_drewN ?_ _) | (with_reducible refine Kd.C_drew ?_))); rintro e w2 ⟨v2, rfl, hr2, hb2⟩; obtain ⟨A2, k2, rfl⟩ := Kd.R_slice hr2; have G1 := Aside0.mk (Kd.R_reads' hr2).2; have G2 := Aside0.mk (show Below w1.heap.size w1 w2 from ⟨hb2.os, hb2.tape, hb2.output, hb2.size, hb2.block⟩); have e1 := blk_below HR1.out G2.out; have e3 := blk_below HR3.out G2.out; have c2_ : _ = some _ := blk_cell e1 0; have c3_ : _ = some _ := blk_cell e3 0; have f2_ := blk_frozen e1 0; have E1 := Aside0.mk (And.intro e1 e3); clear hr2 hb2 e1 e3) | (go_at_call 40; refine (impl_sum.calls k _ _ sm t _ ?b1 G1.out.1 H2.out).mono ?_; (case b1 => repeat (first | exact G1.out.2 | (with_reducible refine Kd.C_drewN ?_ _) | (with_reducible refine Kd.C_drew ?_))); rintro e w3 ⟨rfl, ⟨⟨n, rfl⟩⟩⟩))
  all_goals (try go_wp2)
  all_goals go_end0
  all_goals exact ⟨rfl, ⟨blk_put (blk_drewN E1.out.1 _) 0 _ (by simp [hm_]), blk_far (blk_drewN E1.out.2 _) HG.out.2.2.2 _, (pw_below_drewN (HR2.out.trans (Below.mono G2.out (by have := HR2.out.size; omega))) _).setCell HG.out.1 _⟩, (pw_below_drewN (Below.mono G2.out (by have := HR2.out.size; omega)) _).setCell HG.out.1 _, fun k h1 h2 => (Below.heap_setCell _ _ _ k (by have := HG.out.2.1; simp; omega)).trans (G2.out.block k h2)⟩
set_option maxHeartbeats 4000000 in
set_option maxRecDepth 100000 in
theorem impl_PartRound.calls (k : Nat) (A0 : Option Addr) (c0 : Nat) (l0 : List Int) (r1 : Int) (r2 : Bool) (w : World) (hr0 : Kd.C (Kd.int .i64) w A0 l0.length l0) (hc0 : l0.length ≤ c0) (h : impl_PartRound.f k l0 = some (r1, r2)) :
    Calls Try.prog 22 #[.slice A0 l0.length c0] w fun e w' => e = .returned (.tuple #[.int .i64 r1, .bool r2]) ∧ Below w.heap.size w w' := by
  have HR0 := Aside0.mk hr0
  have HC0 := Aside0.mk hc0
  clear hr0 hc0
  have HB := Aside0.mk (Below.refl w.heap.size w)
  obtain ⟨t, h1, h⟩ := Option.bind_eq_some_iff.mp h
  have A1 := Aside0.mk h1
  clear h1
  by_cases c3 : t = true
  · subst c3
    rw [if_pos rfl] at h
    obtain ⟨r, h3, h⟩ := Option.bind_eq_some_iff.mp h
    simp only [Option.some.injEq, Prod.mk.injEq] at h
    obtain ⟨rfl, rfl⟩ := h
    have A3 := Aside0.mk h3
    clear h3
    have hmf : ∀ (fn : Fn) (first cap : Array Value) (w : World), (Instr.makeFunc fn first cap).run Try.prog w = .ok (.func fn first cap) w := fun _ _ _ _ => rfl
    have ca : ∀ m, (((w.alloc (Obj.cells #[.slice A0 l0.length c0] 22)).drewN m).alloc (Obj.cells #[.int .i64 0] 3)).cell? ⟨w.heap.size + 1, 0, none⟩ = some (.int .i64 0) := fun m => blk_cell (impl_PartRound.heap_new (by simp)) 0
    have fa : ∀ m, (((w.alloc (Obj.cells #[.slice A0 l0.length c0] 22)).drewN m).alloc (Obj.cells #[.int .i64 0] 3)).frozen? ⟨w.heap.size + 1, 0, none⟩ = false := fun m => blk_frozen (impl_PartRound.heap_new (by simp)) 0
    have hb0 : ∀ m, Below w.heap.size w (((w.alloc (Obj.cells #[.slice A0 l0.length c0] 22)).drewN m).alloc (Obj.cells #[.int .i64 0] 3)) := fun m => below_alloc (pw_below_drewN (below_alloc (Below.refl w.heap.size w) _) m) _
    have HBM := Aside0.mk hb0
    clear hb0
    go_enter Try.func22, Try.ntmps22
    go_wp2_with (first
      | (go_at_call 29; refine (impl_StickIn.calls k _ _ l0 true _ (by repeat (first | exact HR0.out | (with_reducible refine Kd.C_alloc ?_ _) | (with_reducible refine Kd.C_drewN ?_ _) | (with_reducible refine Kd.C_drew ?_))) HC0.out A1.out).mono ?_; rintro e w1 ⟨rfl, ⟨⟨n, rfl⟩⟩⟩)
      | (go_at_call 30; refine (impl_parts.calls (impl_PartRound.step k l0) 46 _ Try.func46 (by kernel_rfl) rfl #[.pointer (some ⟨w.heap.size + 1, 0, none⟩), .pointer (some ⟨w.heap.size, 0, none⟩)] w.heap.size (impl_PartRound.R A0 l0.length c0 (w.heap.size + 1) w.heap.size w) k A0 c0 l0 0 r _ ?hm ?ht ?hB ?hr HC0.out ?hs A3.out).mono ?_; (case hm => exact fun s w1 w2 h1 h2 => impl_PartRound.moves h1 h2 (by simp; try omega) (by simp; try omega) (by simp; try omega)); (case ht => exact fun s s' xs A c w1 h1 hz hx hc h2 => impl_PartRound.tell k l0 A0 c0 _ _ w _ s s' xs A c w1 (fun w' hb => Kd.C_below HR0.out hb) HC0.out (by omega) (by omega) (by simp; try omega) h1 hz hx hc h2); (case hB => simp; try omega); (case hr => exact fun w' hb => Kd.C_below HR0.out (Below.trans (HBM.out _) hb)); (case hs => exact ⟨impl_PartRound.heap_new (by simp), blk_alloc (blk_drewN (heap_alloc_new w _) _) _, HBM.out _⟩); rintro e w2 ⟨rfl, hs, hb⟩; have c2 := blk_cell hs.1 0; have HB2 := Aside0.mk (Below.trans (HBM.out _) hb); clear hb hs))
    go_ret2
    exact ⟨rfl, HB2.out⟩
  · replace c3 := Bool.eq_false_iff.mpr c3
    subst c3
    rw [if_neg (by decide)] at h
    simp only [Option.some.injEq, Prod.mk.injEq] at h
    obtain ⟨rfl, rfl⟩ := h
    go_enter Try.func22, Try.ntmps22
    go_wp2_with (first
      | (go_at_call 29; refine (impl_StickIn.calls k _ _ l0 false _ (by repeat (first | exact HR0.out | (with_reducible refine Kd.C_alloc ?_ _) | (with_reducible refine Kd.C_drewN ?_ _) | (with_reducible refine Kd.C_drew ?_))) HC0.out A1.out).mono ?_; rintro e w1 ⟨rfl, ⟨⟨n, rfl⟩⟩⟩))
    go_ret2
    exact ⟨rfl, by repeat (first | (with_reducible first | exact HB.out | apply below_alloc | apply pw_below_drewN | apply below_drew1) | exact HB.out)⟩

/-! ### laws_FnExactPartRound: function 7 -/
def laws_FnExactPartRound.j0 : Nat → List Int → List Int → Bool → Option (Bool)
  | 0, _, _, _ => none
  | k + 1, x0, x5, x31 => if x31 = true then (some false) else ((laws_toIntS.f k x0).bind fun t240 => ((laws_eqIntS.f k x5 t240).bind fun t243 => (if t243 = true then (some true) else (some false))))
def laws_FnExactPartRound.f (k : Nat) (l0 : List Int) : Option (Bool) := if (l0.length : Int) > 1048576 then (some true) else ((laws_toIntS.f k l0).bind fun t230 => ((spec_PartRound.f k t230).bind fun bt233 => ((laws_toIntS.f k l0).bind fun t235 => ((impl_PartRound.f k t235).bind fun bt238 => (if bt238.1 = bt233.1 then (laws_FnExactPartRound.j0 k l0 t235 (bt238.2 != bt233.2)) else (laws_FnExactPartRound.j0 k l0 t235 true))))))
theorem laws_FnExactPartRound.mono_l : ∀ k, (∀ y0 y1 y2, LeO (laws_FnExactPartRound.j0 k y0 y1 y2) (laws_FnExactPartRound.j0 (k + 1) y0 y1 y2))
  | 0 => fun _ _ _ r h => by simp [laws_FnExactPartRound.j0] at h
  | k + 1 => by
    have ih0 := laws_FnExactPartRound.mono_l k
    · intro y0 y1 y2
      unfold laws_FnExactPartRound.j0
      repeat' first
      | (with_reducible exact ih0 _ _ _)
      | (with_reducible exact impl_PartRound.mono _ _)
      | (with_reducible exact laws_eqIntS.mono _ _ _)
      | (with_reducible exact laws_toIntS.mono _ _)
      | (with_reducible exact spec_PartRound.mono _ _)
      | (with_reducible exact LeO.refl _)
      | (with_reducible exact LeO.none _)
      | (with_reducible refine LeO.ite ?_ ?_)
      | (with_reducible refine LeO.bind ?_ (fun _ => ?_))
      | exact ih0 _ _ _
      | exact impl_PartRound.mono _ _
      | exact laws_eqIntS.mono _ _ _
      | exact laws_toIntS.mono _ _
      | exact spec_PartRound.mono _ _
      | exact LeO.none _
      | refine LeO.ite ?_ ?_
      | refine LeO.bind ?_ (fun _ => ?_)
theorem laws_FnExactPartRound.mono : ∀ a0 k, LeO (laws_FnExactPartRound.f k a0) (laws_FnExactPartRound.f (k + 1) a0) := by
  intro a0 k
  have ih0 := laws_FnExactPartRound.mono_l k
  unfold laws_FnExactPartRound.f
  repeat' first
      | (with_reducible exact ih0 _ _ _)
      | (with_reducible exact impl_PartRound.mono _ _)
      | (with_reducible exact laws_eqIntS.mono _ _ _)
      | (with_reducible exact laws_toIntS.mono _ _)
      | (with_reducible exact spec_PartRound.mono _ _)
      | (with_reducible exact LeO.refl _)
      | (with_reducible exact LeO.none _)
      | (with_reducible refine LeO.ite ?_ ?_)
      | (with_reducible refine LeO.bind ?_ (fun _ => ?_))
      | exact ih0 _ _ _
      | exact impl_PartRound.mono _ _
      | exact laws_eqIntS.mono _ _ _
      | exact laws_toIntS.mono _ _
      | exact spec_PartRound.mono _ _
      | exact LeO.none _
      | refine LeO.ite ?_ ?_
      | refine LeO.bind ?_ (fun _ => ?_)
set_option maxHeartbeats 8000000 in
set_option maxRecDepth 100000 in
theorem laws_FnExactPartRound.calls (k : Nat) (A0 : Option Addr) (c0 : Nat) (l0 : List Int) (r : Bool) (w : World) (hr0 : Kd.C (Kd.int .i64) w A0 l0.length l0) (hc0 : l0.length ≤ c0) (h : laws_FnExactPartRound.f k l0 = some r) :
    Calls Try.prog 7 #[.slice A0 l0.length c0] w fun e w' => e = .returned (.bool r) ∧ Below w.heap.size w w' := by
  have HR0 := Aside0.mk hr0
  have HC0 := Aside0.mk hc0
  clear hr0 hc0
  have HB := Aside0.mk (Below.refl w.heap.size w)
  have H : (if (l0.length : Int) > 1048576 then (some true) else ((laws_toIntS.f k l0).bind fun t230 => ((spec_PartRound.f k t230).bind fun bt233 => ((laws_toIntS.f k l0).bind fun t235 => ((impl_PartRound.f k t235).bind fun bt238 => (if bt238.1 = bt233.1 then (laws_FnExactPartRound.j0 k l0 t235 (bt238.2 != bt233.2)) else (laws_FnExactPartRound.j0 k l0 t235 true))))))) = some r := h
  clear h
  by_cases c2 : (l0.length : Int) > 1048576
  · rw [if_pos c2] at H
    have c2b0 : decide (1048576 < (l0.length : Int)) = true := decide_eq_true c2
    have c2b1 : decide (1048576 < l0.length) = true := decide_eq_true (by omega)
    clear c2
    obtain rfl := Option.some.inj H
    go_enter Try.func7, Try.ntmps7
    go_wp2
    go_ret
    exact ⟨by first | rfl | (simp [errW_none, errW_some] <;> rfl) | (simp [*, errW_none, errW_some] <;> rfl), by repeat (first | (with_reducible first | exact HB.out | apply below_alloc | apply pw_below_drewN | apply below_drew1) | exact HB.out)⟩
  · rw [if_neg c2] at H
    have c2b0 : decide (1048576 < (l0.length : Int)) = false := decide_eq_false c2
    have c2b1 : decide (1048576 < l0.length) = false := decide_eq_false (by omega)
    clear c2
    replace H := Option.bind_eq_some_iff.mp H
    obtain ⟨t230, A30, H⟩ := H
    replace H : ((spec_PartRound.f k t230).bind fun bt233 => ((laws_toIntS.f k l0).bind fun t235 => ((impl_PartRound.f k t235).bind fun bt238 => (if bt238.1 = bt233.1 then (laws_FnExactPartRound.j0 k l0 t235 (bt238.2 != bt233.2)) else (laws_FnExactPartRound.j0 k l0 t235 true))))) = some r := H
    have A3 := Aside0.mk A30
    clear A30
    replace H := Option.bind_eq_some_iff.mp H
    obtain ⟨⟨t233, t234⟩, A40, H⟩ := H
    replace H : ((laws_toIntS.f k l0).bind fun t235 => ((impl_PartRound.f k t235).bind fun bt238 => (if bt238.1 = t233 then (laws_FnExactPartRound.j0 k l0 t235 (bt238.2 != t234)) else (laws_FnExactPartRound.j0 k l0 t235 true)))) = some r := H
    have A4 := Aside0.mk A40
    clear A40
    replace H := Option.bind_eq_some_iff.mp H
    obtain ⟨t235, A50, H⟩ := H
    replace H : ((impl_PartRound.f k t235).bind fun bt238 => (if bt238.1 = t233 then (laws_FnExactPartRound.j0 k l0 t235 (bt238.2 != t234)) else (laws_FnExactPartRound.j0 k l0 t235 true))) = some r := H
    have A5 := Aside0.mk A50
    clear A50
    replace H := Option.bind_eq_some_iff.mp H
    obtain ⟨⟨t238, t239⟩, A60, H⟩ := H
    replace H : (if t238 = t233 then (laws_FnExactPartRound.j0 k l0 t235 (t239 != t234)) else (laws_FnExactPartRound.j0 k l0 t235 true)) = some r := H
    have A6 := Aside0.mk A60
    clear A60
    have HC7 := Aside0.mk H
    clear H
    go_enter Try.func7, Try.ntmps7
    go_upto_region 6 with (first | ((with_reducible refine gate_callee (f := 10) rfl ?_); refine goesL_ (some 13) rfl rfl Try.func10 (by kernel_rfl) rfl #[.slice A0 l0.length c0] rfl (by (try simp only [List.map_toArray, List.map_cons, List.map_nil]); first | done | rfl | (simp only [List.length_drop, List.length_take]; rfl)) ?_; (with_reducible refine (laws_toIntS.calls k _ _ l0 t230 _ ?side1 ?side2 A3.out).mono ?_); (case side1 => repeat (first | exact HR0.out | (with_reducible refine Kd.C_alloc ?_ _) | (with_reducible refine Kd.C_drewN ?_ _) | (with_reducible refine Kd.C_drew ?_))); (case side2 => exact HC0.out); rintro e w8 ⟨v231, rfl, ho0, hb⟩; refine ⟨_, rfl, ?_⟩; have n0_ := Aside0.mk (Kd.R_lower ho0 (below_size (by repeat (first | (with_reducible first | exact HB.out | apply below_alloc | apply pw_below_drewN | apply below_drew1) | exact HB.out)))); have n1_ := Aside0.mk (below_step (by repeat (first | (with_reducible first | exact HB.out | apply below_alloc | apply pw_below_drewN | apply below_drew1) | exact HB.out)) hb); clear HB; have HO232 := n0_; have HB := n1_; clear n0_ n1_; (try clear hb); (try clear hb2); (try clear hk); (try clear hi); (try clear ho0); obtain ⟨Ao9, co9, eo9⟩ := Kd.R_slice HO232.out; subst eo9) | ((with_reducible refine gate_callee (f := 21) rfl ?_); refine goesL_ (some 14) rfl rfl Try.func21 (by kernel_rfl) rfl #[.slice Ao9 t230.length co9] rfl (by (try simp only [List.map_toArray, List.map_cons, List.map_nil]); first | done | rfl | (simp only [List.length_drop, List.length_take]; rfl)) ?_; (with_reducible refine (spec_PartRound.calls k _ _ t230 t233 t234 _ ?side1 ?side2 A4.out).mono ?_); (case side1 => repeat (first | exact (Kd.R_reads' HO232.out).2.2 | (with_reducible refine Kd.C_alloc ?_ _) | (with_reducible refine Kd.C_drewN ?_ _) | (with_reducible refine Kd.C_drew ?_))); (case side2 => exact (Kd.R_reads' HO232.out).2.1); rintro e w10 ⟨rfl, hb⟩; refine ⟨_, rfl, ?_⟩; have n0_ := Aside0.mk (Kd.R_below (by (with_reducible repeat (first | apply Kd.R_alloc | apply Kd.R_drewN | apply Kd.R_drew)); exact HO232.out) hb); have n1_ := Aside0.mk (below_step (by repeat (first | (with_reducible first | exact HB.out | apply below_alloc | apply pw_below_drewN | apply below_drew1) | exact HB.out)) hb); clear HO232; clear HB; have HO232 := n0_; have HB := n1_; clear n0_ n1_; (try clear hb); (try clear hb2); (try clear hk); (try clear hi)) | ((with_reducible refine gate_callee (f := 10) rfl ?_); refine goesL_ (some 18) rfl rfl Try.func10 (by kernel_rfl) rfl #[.slice A0 l0.length c0] rfl (by (try simp only [List.map_toArray, List.map_cons, List.map_nil]); first | done | rfl | (simp only [List.length_drop, List.length_take]; rfl)) ?_; (with_reducible refine (laws_toIntS.calls k _ _ l0 t235 _ ?side1 ?side2 A5.out).mono ?_); (case side1 => repeat (first | exact (Kd.C_below HR0.out HB.out) | (with_reducible refine Kd.C_alloc ?_ _) | (with_reducible refine Kd.C_drewN ?_ _) | (with_reducible refine Kd.C_drew ?_))); (case side2 => exact HC0.out); rintro e w11 ⟨v236, rfl, ho0, hb⟩; refine ⟨_, rfl, ?_⟩; have n0_ := Aside0.mk (Kd.R_elder' (by (with_reducible repeat (first | apply Kd.R_alloc | apply Kd.R_drewN | apply Kd.R_drew)); exact HO232.out) (Kd.R_base ho0) hb); have n1_ := Aside0.mk (Kd.R_lower (Kd.R_new' ho0 (Kd.R_lt (by (with_reducible repeat (first | apply Kd.R_alloc | apply Kd.R_drewN | apply Kd.R_drew)); exact HO232.out))) (below_size (by repeat (first | (with_reducible first | exact HB.out | apply below_alloc | apply pw_below_drewN | apply below_drew1) | exact HB.out)))); have n2_ := Aside0.mk (below_step (by repeat (first | (with_reducible first | exact HB.out | apply below_alloc | apply pw_below_drewN | apply below_drew1) | exact HB.out)) hb); clear HO232; clear HB; have HO232 := n0_; have HO237 := n1_; have HB := n2_; clear n0_ n1_ n2_; (try clear hb); (try clear hb2); (try clear hk); (try clear hi); (try clear ho0); obtain ⟨Ao12, co12, eo12⟩ := Kd.R_slice HO237.out; subst eo12) | ((with_reducible refine gate_callee (f := 22) rfl ?_); refine goesL_ (some 21) rfl rfl Try.func22 (by kernel_rfl) rfl #[.slice Ao12 t235.length co12] rfl (by (try simp only [List.map_toArray, List.map_cons, List.map_nil]); first | done | rfl | (simp only [List.length_drop, List.length_take]; rfl)) ?_; (with_reducible refine (impl_PartRound.calls k _ _ t235 t238 t239 _ ?side1 ?side2 A6.out).mono ?_); (case side1 => repeat (first | exact (Kd.R_reads' HO237.out).2.2 | (with_reducible refine Kd.C_alloc ?_ _) | (with_reducible refine Kd.C_drewN ?_ _) | (with_reducible refine Kd.C_drew ?_))); (case side2 => exact (Kd.R_reads' HO237.out).2.1); rintro e w13 ⟨rfl, hb⟩; refine ⟨_, rfl, ?_⟩; have n0_ := Aside0.mk (Kd.R_below (by (with_reducible repeat (first | apply Kd.R_alloc | apply Kd.R_drewN | apply Kd.R_drew)); exact HO232.out) hb); have n1_ := Aside0.mk (Kd.R_below (by (with_reducible repeat (first | apply Kd.R_alloc | apply Kd.R_drewN | apply Kd.R_drew)); exact HO237.out) hb); have n2_ := Aside0.mk (below_step (by repeat (first | (with_reducible first | exact HB.out | apply below_alloc | apply pw_below_drewN | apply below_drew1) | exact HB.out)) hb); clear HO232; clear HO237; clear HB; have HO232 := n0_; have HO237 := n1_; have HB := n2_; clear n0_ n1_ n2_; (try clear hb); (try clear hb2); (try clear hk); (try clear hi)))
    (try simp only [Act.put, List.setIfInBounds_toArray, List.set_cons_zero, List.set_cons_succ])
    go_cut [31] (fun v31 wc => ∃ (kq : Nat) (x31_6 : Bool), v31 = .bool x31_6 ∧ Aside0 (laws_FnExactPartRound.j0 kq l0 t235 x31_6 = some r) ∧ Aside0 (kq ≤ k) ∧ Aside0 (Kd.R (Kd.int .i64) 3 wc w.heap.size (fun _ => True) (.slice Ao12 t235.length co12) t235) ∧ Aside0 (Below w.heap.size w wc))
    case first =>
      have H := HC7.out
      clear HC7
      by_cases c14 : t238 = t233
      · rw [if_pos c14] at H
        have c14b0 : (t238 == t233) = true := beq_iff_eq.mpr c14
        have c14b1 : (t238 != t233) = false := bne_eq_false_iff_eq.mpr c14
        clear c14
        (first | rw [c14b0] | (simp only [i64_w, i32_w]; rw [c14b0]) | skip)
        have H' := Aside0.mk H
        clear H
        go_wp2
        go_meet
        case rel => exact ⟨_, ((t239 != t234)), (by first | rfl | (simp; done) | (simp [*]; done)), H', ⟨by first | omega | exact Nat.le_refl _⟩, ⟨by (with_reducible repeat (first | apply Kd.R_alloc | apply Kd.R_drewN | apply Kd.R_drew)); exact Kd.R_mono HO237.out (fun _ hk => trivial)⟩, ⟨by repeat (first | (with_reducible first | exact HB.out | apply below_alloc | apply pw_below_drewN | apply below_drew1) | exact HB.out)⟩⟩
      · rw [if_neg c14] at H
        have c14b0 : (t238 == t233) = false := beq_eq_false_iff_ne.mpr c14
        have c14b1 : (t238 != t233) = true := bne_iff_ne.mpr c14
        (first | rw [c14b0] | (simp only [i64_w, i32_w]; rw [c14b0]) | skip)
        have H' := Aside0.mk H
        clear H
        go_wp2
        go_meet
        case rel => exact ⟨_, (true), (by first | rfl | (simp; done) | (simp [*]; done)), H', ⟨by first | omega | exact Nat.le_refl _⟩, ⟨by (with_reducible repeat (first | apply Kd.R_alloc | apply Kd.R_drewN | apply Kd.R_drew)); exact Kd.R_mono HO237.out (fun _ hk => trivial)⟩, ⟨by repeat (first | (with_reducible first | exact HB.out | apply below_alloc | apply pw_below_drewN | apply below_drew1) | exact HB.out)⟩⟩
    case rest =>
      clear HC7
      try clear c1
      try clear c2
      try clear c2b0
      try clear c2b1
      try clear p2
      try clear c7
      try clear c10
      try clear c14
      try clear c14b0
      try clear c14b1
      obtain ⟨kq, x31_6, rfl, HA, HJ6, HO_5, HB⟩ := hcut
      cases kq with
      | zero => exact absurd HA.out (by simp [laws_FnExactPartRound.j0])
      | succ kj6 =>
        have H := HA.out
        clear HA
        simp only [laws_FnExactPartRound.j0] at H
        by_cases c15 : x31_6 = true
        · subst c15
          have H1 : (some false) = some r := by rw [if_pos rfl] at H; exact H
          clear H
          have H := H1
          clear H1
          obtain rfl := Option.some.inj H
          go_wp2
          go_ret
          exact ⟨by first | rfl | (simp [errW_none, errW_some] <;> rfl) | (simp [*, errW_none, errW_some] <;> rfl), by repeat (first | (with_reducible first | exact HB.out | apply below_alloc | apply pw_below_drewN | apply below_drew1) | exact HB.out)⟩
        · replace c15 := Bool.eq_false_iff.mpr c15
          subst c15
          have H1 : ((laws_toIntS.f kj6 l0).bind fun t240 => ((laws_eqIntS.f kj6 t235 t240).bind fun t243 => (if t243 = true then (some true) else (some false)))) = some r := by rw [if_neg (show ¬ (false = true) by decide)] at H; exact H
          clear H
          have H := H1
          clear H1
          replace H := Option.bind_eq_some_iff.mp H
          obtain ⟨t240, A160, H⟩ := H
          replace H : ((laws_eqIntS.f kj6 t235 t240).bind fun t243 => (if t243 = true then (some true) else (some false))) = some r := H
          have A16 := Aside0.mk A160
          clear A160
          replace H := Option.bind_eq_some_iff.mp H
          obtain ⟨t243, A170, H⟩ := H
          replace H : (if t243 = true then (some true) else (some false)) = some r := H
          have A17 := Aside0.mk A170
          clear A170
          by_cases c18 : t243 = true
          · subst c18
            have H1 : (some true) = some r := by rw [if_pos rfl] at H; exact H
            clear H
            have H := H1
            clear H1
            obtain rfl := Option.some.inj H
            go_wp2_with (first | ((with_reducible refine gate_callee (f := 10) rfl ?_); refine goesL_ (some 34) rfl rfl Try.func10 (by kernel_rfl) rfl #[.slice A0 l0.length c0] rfl (by (try simp only [List.map_toArray, List.map_cons, List.map_nil]); first | done | rfl | (simp only [List.length_drop, List.length_take]; rfl)) ?_; (with_reducible refine (laws_toIntS.calls kj6 _ _ l0 t240 _ ?side1 ?side2 A16.out).mono ?_); (case side1 => repeat (first | exact (Kd.C_below HR0.out HB.out) | (with_reducible refine Kd.C_alloc ?_ _) | (with_reducible refine Kd.C_drewN ?_ _) | (with_reducible refine Kd.C_drew ?_))); (case side2 => exact HC0.out); rintro e w19 ⟨v241, rfl, ho0, hb⟩; refine ⟨_, rfl, ?_⟩; have n0_ := Aside0.mk (Kd.R_elder' (by (with_reducible repeat (first | apply Kd.R_alloc | apply Kd.R_drewN | apply Kd.R_drew)); exact HO_5.out) (Kd.R_base ho0) hb); have n1_ := Aside0.mk (Kd.R_lower (Kd.R_new' ho0 (Kd.R_lt (by (with_reducible repeat (first | apply Kd.R_alloc | apply Kd.R_drewN | apply Kd.R_drew)); exact HO_5.out))) (below_size (by repeat (first | (with_reducible first | exact HB.out | apply below_alloc | apply pw_below_drewN | apply below_drew1) | exact HB.out)))); have n2_ := Aside0.mk (below_step (by repeat (first | (with_reducible first | exact HB.out | apply below_alloc | apply pw_below_drewN | apply below_drew1) | exact HB.out)) hb); clear HO_5; clear HB; have HO_5 := n0_; have HO242 := n1_; have HB := n2_; clear n0_ n1_ n2_; (try clear hb); (try clear hb2); (try clear hk); (try clear hi); (try clear ho0); obtain ⟨Ao20, co20, eo20⟩ := Kd.R_slice HO242.out; subst eo20) | ((with_reducible refine gate_callee (f := 12) rfl ?_); refine goesL_ (some 35) rfl rfl Try.func12 (by kernel_rfl) rfl #[.slice Ao12 t235.length co12, .slice Ao20 t240.length co20] rfl (by (try simp only [List.map_toArray, List.map_cons, List.map_nil]); first | done | rfl | (simp only [List.length_drop, List.length_take]; rfl)) ?_; (with_reducible refine (laws_eqIntS.calls kj6 _ _ t235 _ _ t240 true _ ?side1 ?side2 ?side3 ?side4 A17.out).mono ?_); (case side1 => repeat (first | exact (Kd.R_reads' HO_5.out).2.2 | (with_reducible refine Kd.C_alloc ?_ _) | (with_reducible refine Kd.C_drewN ?_ _) | (with_reducible refine Kd.C_drew ?_))); (case side2 => exact (Kd.R_reads' HO_5.out).2.1); (case side3 => repeat (first | exact (Kd.R_reads' HO242.out).2.2 | (with_reducible refine Kd.C_alloc ?_ _) | (with_reducible refine Kd.C_drewN ?_ _) | (with_reducible refine Kd.C_drew ?_))); (case side4 => exact (Kd.R_reads' HO242.out).2.1); rintro e w' ⟨rfl, ⟨nd, rfl⟩⟩; refine ⟨_, rfl, ?_⟩))
            go_ret
            exact ⟨by first | rfl | (simp [errW_none, errW_some] <;> rfl) | (simp [*, errW_none, errW_some] <;> rfl), by repeat (first | (with_reducible first | exact HB.out | apply below_alloc | apply pw_below_drewN | apply below_drew1) | exact HB.out)⟩
          · replace c18 := Bool.eq_false_iff.mpr c18
            subst c18
            have H1 : (some false) = some r := by rw [if_neg (show ¬ (false = true) by decide)] at H; exact H
            clear H
            have H := H1
            clear H1
            obtain rfl := Option.some.inj H
            go_wp2_with (first | ((with_reducible refine gate_callee (f := 10) rfl ?_); refine goesL_ (some 34) rfl rfl Try.func10 (by kernel_rfl) rfl #[.slice A0 l0.length c0] rfl (by (try simp only [List.map_toArray, List.map_cons, List.map_nil]); first | done | rfl | (simp only [List.length_drop, List.length_take]; rfl)) ?_; (with_reducible refine (laws_toIntS.calls kj6 _ _ l0 t240 _ ?side1 ?side2 A16.out).mono ?_); (case side1 => repeat (first | exact (Kd.C_below HR0.out HB.out) | (with_reducible refine Kd.C_alloc ?_ _) | (with_reducible refine Kd.C_drewN ?_ _) | (with_reducible refine Kd.C_drew ?_))); (case side2 => exact HC0.out); rintro e w21 ⟨v241, rfl, ho0, hb⟩; refine ⟨_, rfl, ?_⟩; have n0_ := Aside0.mk (Kd.R_elder' (by (with_reducible repeat (first | apply Kd.R_alloc | apply Kd.R_drewN | apply Kd.R_drew)); exact HO_5.out) (Kd.R_base ho0) hb); have n1_ := Aside0.mk (Kd.R_lower (Kd.R_new' ho0 (Kd.R_lt (by (with_reducible repeat (first | apply Kd.R_alloc | apply Kd.R_drewN | apply Kd.R_drew)); exact HO_5.out))) (below_size (by repeat (first | (with_reducible first | exact HB.out | apply below_alloc | apply pw_below_drewN | apply below_drew1) | exact HB.out)))); have n2_ := Aside0.mk (below_step (by repeat (first | (with_reducible first | exact HB.out | apply below_alloc | apply pw_below_drewN | apply below_drew1) | exact HB.out)) hb); clear HO_5; clear HB; have HO_5 := n0_; have HO242 := n1_; have HB := n2_; clear n0_ n1_ n2_; (try clear hb); (try clear hb2); (try clear hk); (try clear hi); (try clear ho0); obtain ⟨Ao22, co22, eo22⟩ := Kd.R_slice HO242.out; subst eo22) | ((with_reducible refine gate_callee (f := 12) rfl ?_); refine goesL_ (some 35) rfl rfl Try.func12 (by kernel_rfl) rfl #[.slice Ao12 t235.length co12, .slice Ao22 t240.length co22] rfl (by (try simp only [List.map_toArray, List.map_cons, List.map_nil]); first | done | rfl | (simp only [List.length_drop, List.length_take]; rfl)) ?_; (with_reducible refine (laws_eqIntS.calls kj6 _ _ t235 _ _ t240 false _ ?side1 ?side2 ?side3 ?side4 A17.out).mono ?_); (case side1 => repeat (first | exact (Kd.R_reads' HO_5.out).2.2 | (with_reducible refine Kd.C_alloc ?_ _) | (with_reducible refine Kd.C_drewN ?_ _) | (with_reducible refine Kd.C_drew ?_))); (case side2 => exact (Kd.R_reads' HO_5.out).2.1); (case side3 => repeat (first | exact (Kd.R_reads' HO242.out).2.2 | (with_reducible refine Kd.C_alloc ?_ _) | (with_reducible refine Kd.C_drewN ?_ _) | (with_reducible refine Kd.C_drew ?_))); (case side4 => exact (Kd.R_reads' HO242.out).2.1); rintro e w' ⟨rfl, ⟨nd, rfl⟩⟩; refine ⟨_, rfl, ?_⟩))
            go_ret
            exact ⟨by first | rfl | (simp [errW_none, errW_some] <;> rfl) | (simp [*, errW_none, errW_some] <;> rfl), by repeat (first | (with_reducible first | exact HB.out | apply below_alloc | apply pw_below_drewN | apply below_drew1) | exact HB.out)⟩

/-- THE ONE PURE STATEMENT of laws_FnExactPartRound: yours. -/
def laws_FnExactPartRound.Pure : Prop := ∀ (l0 : List Int), l0.length ≤ maxLen → l0.length * 8 ≤ 140737488351232 → (∀ x ∈ l0, (Lit.int .i64 x).wf = true) → ∃ k, laws_FnExactPartRound.f k l0 = some true
theorem laws_FnExactPartRound.walk (P : laws_FnExactPartRound.Pure) (a0 : Option Addr) (len0 cap0 : Nat) (z0 : List Int) (w : World) (w0 : (a0 = none ∧ len0 = 0 ∧ cap0 = 0 ∧ z0 = []) ∨ ∃ x, a0 = some x ∧ len0 ≤ cap0 ∧ cap0 ≤ maxLen ∧ z0.length = cap0 ∧ (∀ i, i < z0.length → w.cell? (x.add i) = some (.int .i64 (z0.getD i 0))) ∧ ∀ n ∈ z0, (Lit.int .i64 n).wf = true) (y0 : len0 * 8 ≤ 140737488351232) :
    Calls Try.prog 7 #[.slice a0 len0 cap0] w fun e w' => e = .returned (.bool true) ∧ Below w.heap.size w w' := by
  obtain ⟨l0, rfl, hr0, hm0, hw0, hc0⟩ := ReadsInt.ofRowC w0
  obtain ⟨k, h⟩ := P l0 hm0 y0 hw0
  refine (laws_FnExactPartRound.calls k _ _ l0 true w (Kd.C_of_reads (d := (0 : Int)) (h1 := fun _ => rfl) hr0) hc0 h).mono ?_
  rintro e w' ⟨rfl, hd⟩
  exact ⟨rfl, hd⟩

end Go.Proofs.Ytcbbeokiolecmaa.PFnExactPartRound
