/- Written by a program of this claim out of the translation: plain Lean functions and their contracts; what is proved: each Go function of this text comes to what its Lean function says. -/
import Derived.Test.YthdbcgclomfciaaPFnPartRoundx0
import Derived.Test.YthdbcgclomfciaaPFnPartRoundx1
import Derived.Test.YthdbcgclomfciaaPFnPartRoundx4
import Derived.Test.YthdbcgclomfciaaPFnPartRoundx6
import Derived.Test.YthdbcgclomfciaaPFnPartRoundx7
namespace Go.Proofs.Ythdbcgclomfciaa.PFnPartRound
open Go.RowKit Go.Proofs.YthdbcgclomfciaaW.PrintWords Go.Proofs.YthdbcgclomfciaaW.PrintLast Go.Proofs.YthdbcgclomfciaaW.PrintMore
attribute [local go_sem] max2_int min2_int max_two min_two max_three min_three max_four min_four   -- for this text's walks alone
set_option linter.unusedVariables false
set_option linter.unusedSimpArgs false

/-! ### impl_threes: function 52, by hand -/
def impl_threes.lz {S : Type} (step : S → Int → Int → Int → Option S) : Nat → List Int → Int → Int → Int → S → Option S
  | 0, _, _, _, _, _ => none
  | k + 1, a, x, y, z, s => if z < (a.length : Int) then ((step s x y z).bind fun s' => impl_threes.lz step k a x y (wrap64 (z + 1)) s') else some s
def impl_threes.ly {S : Type} (step : S → Int → Int → Int → Option S) : Nat → List Int → Int → Int → S → Option S
  | 0, _, _, _, _ => none
  | k + 1, a, x, y, s => if y < (a.length : Int) then ((impl_threes.lz step k a x y (wrap64 (y + 1)) s).bind fun s' => impl_threes.ly step k a x (wrap64 (y + 1)) s') else some s
def impl_threes.lx {S : Type} (step : S → Int → Int → Int → Option S) : Nat → List Int → Int → S → Option S
  | 0, _, _, _ => none
  | k + 1, a, x, s => if x < (a.length : Int) then ((impl_threes.ly step k a x (wrap64 (x + 1)) s).bind fun s' => impl_threes.lx step k a (wrap64 (x + 1)) s') else some s
def impl_threes.f {S : Type} (step : S → Int → Int → Int → Option S) (k : Nat) (a : List Int) (s : S) : Option S := impl_threes.lx step k a 0 s
theorem impl_threes.mono_z {S : Type} {st st' : S → Int → Int → Int → Option S} (hst : ∀ s x y z, LeO (st s x y z) (st' s x y z)) : ∀ k a x y z s, LeO (impl_threes.lz st k a x y z s) (impl_threes.lz st' (k + 1) a x y z s)
  | 0, _, _, _, _, _ => fun r h => by simp [impl_threes.lz] at h
  | k + 1, a, x, y, z, s => by
    have ih := impl_threes.mono_z hst k
    rw [impl_threes.lz, impl_threes.lz]
    exact LeO.ite (LeO.bind (hst _ _ _ _) (fun _ => ih _ _ _ _ _)) (LeO.refl _)
theorem impl_threes.mono_y {S : Type} {st st' : S → Int → Int → Int → Option S} (hst : ∀ s x y z, LeO (st s x y z) (st' s x y z)) : ∀ k a x y s, LeO (impl_threes.ly st k a x y s) (impl_threes.ly st' (k + 1) a x y s)
  | 0, _, _, _, _ => fun r h => by simp [impl_threes.ly] at h
  | k + 1, a, x, y, s => by
    have ih := impl_threes.mono_y hst k
    rw [impl_threes.ly, impl_threes.ly]
    exact LeO.ite (LeO.bind (impl_threes.mono_z hst _ _ _ _ _ _) (fun _ => ih _ _ _ _)) (LeO.refl _)
theorem impl_threes.mono_x {S : Type} {st st' : S → Int → Int → Int → Option S} (hst : ∀ s x y z, LeO (st s x y z) (st' s x y z)) : ∀ k a x s, LeO (impl_threes.lx st k a x s) (impl_threes.lx st' (k + 1) a x s)
  | 0, _, _, _ => fun r h => by simp [impl_threes.lx] at h
  | k + 1, a, x, s => by
    have ih := impl_threes.mono_x hst k
    rw [impl_threes.lx, impl_threes.lx]
    exact LeO.ite (LeO.bind (impl_threes.mono_y hst _ _ _ _ _) (fun _ => ih _ _ _)) (LeO.refl _)
theorem impl_threes.mono {S : Type} {st st' : S → Int → Int → Int → Option S} (hst : ∀ s x y z, LeO (st s x y z) (st' s x y z)) (a : List Int) (s : S) (k : Nat) : LeO (impl_threes.f st k a s) (impl_threes.f st' (k + 1) a s) := impl_threes.mono_x hst k a 0 s
set_option maxHeartbeats 8000000 in
set_option maxRecDepth 100000 in
/-- All three places, told one behind the other to a function value. -/
theorem impl_threes.calls {S : Type} (step : S → Int → Int → Int → Option S) (K : Nat) (fn : Func) (hK : Try.prog.funcs[K]? = some fn) (hKn : (fn.name == "runtime.NumGoroutine") = false) (hKb : fn.body.isSome = true) (caps : Array Value) (R : S → World → Prop)
    (k : Nat) (A0 : Option Addr) (c0 : Nat) (a : List Int) (s0 s1 : S) (w : World)
    (htell : ∀ s s' x y z w1, R s w1 → step s x y z = some s' → Calls Try.prog K (#[.int .i64 x, .int .i64 y, .int .i64 z] ++ caps) w1 fun e w2 => e = .returned (.tuple #[]) ∧ R s' w2)
    (hs : R s0 w) (h : impl_threes.f step k a s0 = some s1) :
    Calls Try.prog 52 #[.slice A0 a.length c0, .func (.func K) #[] caps] w fun e w' => e = .returned (.tuple #[]) ∧ R s1 w' := by
  have H : impl_threes.lx step k a 0 s0 = some s1 := h
  have HH := Aside0.mk H
  have HT := Aside0.mk htell
  have HKn := Aside0.mk (And.intro hK (And.intro hKn hKb))
  have HS := Aside0.mk hs
  clear h H htell hK hKn hKb hs
  go_enter Try.func52, Try.ntmps52
  go_wp2
  go_loopg [9] k (fun kq v9 w' => ∃ (x : Int) (s : S), v9 = .int .i64 x ∧ Aside0 (impl_threes.lx step kq a x s = some s1) ∧ Aside0 (kq ≤ k) ∧ Aside0 (R s w'))
  case atStart => exact ⟨0, s0, rfl, HH, ⟨Nat.le_refl _⟩, HS⟩
  case round =>
    clear HH HS
    obtain ⟨x, s, rfl, HA, HK, HR⟩ := hrel
    cases gk with
    | zero => exact absurd HA.out (by simp [impl_threes.lx])
    | succ k1 =>
      have H := HA.out
      clear HA
      simp only [impl_threes.lx] at H
      by_cases c1 : x < (a.length : Int)
      · rw [if_pos c1] at H
        have c1b : decide (x < (a.length : Int)) = true := decide_eq_true c1
        obtain ⟨s2, h2, H⟩ := Option.bind_eq_some_iff.mp H
        have H2 := Aside0.mk h2
        have H' := Aside0.mk H
        clear c1 h2 H
        go_wp2
        go_loopg [5] k1 (fun kq v5 w' => ∃ (y : Int) (s : S), v5 = .int .i64 y ∧ Aside0 (impl_threes.ly step kq a x y s = some s2) ∧ Aside0 (kq ≤ k1) ∧ Aside0 (R s w'))
        case atStart => exact ⟨wrap64 (x + 1), s, (by first | rfl | (simp; done) | (simp [*]; done)), H2, ⟨Nat.le_refl _⟩, HR⟩
        case round =>
          clear H2 HR
          obtain ⟨y, s, rfl, HA, HK2, HR⟩ := hrel
          cases gk with
          | zero => exact absurd HA.out (by simp [impl_threes.ly])
          | succ k2 =>
            have H := HA.out
            clear HA
            simp only [impl_threes.ly] at H
            by_cases c2 : y < (a.length : Int)
            · rw [if_pos c2] at H
              have c2b : decide (y < (a.length : Int)) = true := decide_eq_true c2
              obtain ⟨s3, h3, H⟩ := Option.bind_eq_some_iff.mp H
              have H3 := Aside0.mk h3
              have H2' := Aside0.mk H
              clear c2 h3 H
              go_wp2
              go_loopg [6] k2 (fun kq v6 w' => ∃ (z : Int) (s : S), v6 = .int .i64 z ∧ Aside0 (impl_threes.lz step kq a x y z s = some s3) ∧ Aside0 (kq ≤ k2) ∧ Aside0 (R s w'))
              case atStart => exact ⟨wrap64 (y + 1), s, (by first | rfl | (simp; done) | (simp [*]; done)), H3, ⟨Nat.le_refl _⟩, HR⟩
              case round =>
                clear H3 HR
                obtain ⟨z, s, rfl, HA, HK3, HR⟩ := hrel
                cases gk with
                | zero => exact absurd HA.out (by simp [impl_threes.lz])
                | succ k3 =>
                  have H := HA.out
                  clear HA
                  simp only [impl_threes.lz] at H
                  by_cases c3 : z < (a.length : Int)
                  · rw [if_pos c3] at H
                    have c3b : decide (z < (a.length : Int)) = true := decide_eq_true c3
                    obtain ⟨s4, h4, H⟩ := Option.bind_eq_some_iff.mp H
                    have H4 := Aside0.mk h4
                    have H3' := Aside0.mk H
                    clear c3 h4 H
                    go_wp2
                    rw [enters_ HKn.out.1 HKn.out.2.1 HKn.out.2.2, Oper.upon_enter]
                    refine (HT.out s s4 x y z wr HR.out H4.out).mono ?_
                    rintro e w2 ⟨rfl, hs2⟩
                    have HR2 := Aside0.mk hs2
                    clear hs2
                    go_wp2
                    go_roundg k3
                    case measure => omega
                    case rel => exact ⟨wrap64 (z + 1), s4, (by first | rfl | (simp; done) | (simp [*]; done)), H3', ⟨by have := HK3.out; omega⟩, HR2⟩
                  · rw [if_neg c3] at H
                    have c3b : decide (z < (a.length : Int)) = false := decide_eq_false c3
                    obtain rfl := Option.some.inj H
                    clear c3 H
                    go_wp2
                    go_roundg k2
                    case measure => omega
                    case rel => exact ⟨wrap64 (y + 1), s, (by first | rfl | (simp; done) | (simp [*]; done)), H2', ⟨by have := HK2.out; omega⟩, HR⟩
            · rw [if_neg c2] at H
              have c2b : decide (y < (a.length : Int)) = false := decide_eq_false c2
              obtain rfl := Option.some.inj H
              clear c2 H
              go_wp2
              go_roundg k1
              case measure => omega
              case rel => exact ⟨wrap64 (x + 1), s, (by first | rfl | (simp; done) | (simp [*]; done)), H', ⟨by have := HK.out; omega⟩, HR⟩
      · rw [if_neg c1] at H
        have c1b : decide (x < (a.length : Int)) = false := decide_eq_false c1
        obtain rfl := Option.some.inj H
        clear c1 H
        go_wp2
        go_end0
        exact ⟨rfl, HR.out⟩

-- NOT PRINTED: function 53 (impl_StickWidest_1)

/-! ### impl_StickWidest: function 29, by hand -/
def impl_StickWidest.step (l : List Int) (s : Int) (x y z : Int) : Option Int := if 0 ≤ x then (if x < (l.length : Int) then (if 0 ≤ y then (if y < (l.length : Int) then (if 0 ≤ z then (if z < (l.length : Int) then (if rd l z < wrap64 (rd l x + rd l y) then some (mx s (wrap64 (wrap64 (rd l x + rd l y) + rd l z))) else some s) else none) else none) else none) else none) else none) else none
def impl_StickWidest.f (k : Nat) (l : List Int) : Option (Int × Bool) :=
  (impl_StickIn.f k l).bind fun t => if t = true then ((impl_threes.f (impl_StickWidest.step l) k l 0).bind fun r => some (r, decide (r > 0))) else some (0, false)
theorem impl_StickWidest.mono : ∀ a0 k, LeO (impl_StickWidest.f k a0) (impl_StickWidest.f (k + 1) a0) := by
  intro a0 k
  unfold impl_StickWidest.f
  exact LeO.bind (impl_StickIn.mono _ _) (fun _ => LeO.ite (LeO.bind (impl_threes.mono (fun _ _ _ _ => LeO.refl _) _ _ _) (fun _ => LeO.refl _)) (LeO.refl _))
theorem impl_StickWidest.heap_new {W : World} {o : Obj} {g : Nat} (h : g = W.heap.size) : (W.alloc o).heap[g]? = some o := by
  subst h
  exact heap_alloc_new W o
/-- What holds between the calls of the function that is told: the number's own cell, the argument's box. -/
def impl_StickWidest.R (A0 : Option Addr) (n0 c0 ga gm : Nat) (w0 : World) (s : Int) (w1 : World) : Prop := w1.heap[gm]? = some (.cells #[.int .i64 s] 3 (0, 0)) ∧ w1.heap[ga]? = some (.cells #[.slice A0 n0 c0] 23 (0, 0)) ∧ Below w0.heap.size w0 w1
set_option maxHeartbeats 4000000 in
set_option maxRecDepth 100000 in
theorem impl_StickWidest.tell (l0 : List Int) (A0 : Option Addr) (c0 ga gm : Nat) (w0 : World) (s s' x y z : Int) (w1 : World) (hr0 : ∀ w', Below w0.heap.size w0 w' → Kd.C (Kd.int .i64) w' A0 l0.length l0) (hg : w0.heap.size ≤ gm) (hR : impl_StickWidest.R A0 l0.length c0 ga gm w0 s w1) (h : impl_StickWidest.step l0 s x y z = some s') :
    Calls Try.prog 53 (#[.int .i64 x, .int .i64 y, .int .i64 z] ++ #[.pointer (some ⟨ga, 0, none⟩), .pointer (some ⟨gm, 0, none⟩)]) w1 fun e w2 => e = .returned (.tuple #[]) ∧ impl_StickWidest.R A0 l0.length c0 ga gm w0 s' w2 := by
  show Calls Try.prog 53 #[.int .i64 x, .int .i64 y, .int .i64 z, .pointer (some ⟨ga, 0, none⟩), .pointer (some ⟨gm, 0, none⟩)] w1 _
  obtain ⟨hR1, hR3, hR2⟩ := hR
  have hc := hr0 w1 hR2
  have HR1 := Aside0.mk hR1
  have HR2 := Aside0.mk hR2
  have HR3 := Aside0.mk hR3
  have HG := Aside0.mk hg
  have hne : ga ≠ gm := blk_ne hR3 hR1 (by decide)
  have HN := Aside0.mk hne
  have c0_ : _ = some _ := blk_cell hR1 0
  have c1_ : _ = some _ := blk_cell hR3 0
  have f0_ := blk_frozen hR1 0
  unfold impl_StickWidest.step at h
  by_cases x0 : 0 ≤ x
  · rw [if_pos x0] at h
    by_cases x1 : x < (l0.length : Int)
    · rw [if_pos x1] at h
      by_cases y0 : 0 ≤ y
      · rw [if_pos y0] at h
        by_cases y1 : y < (l0.length : Int)
        · rw [if_pos y1] at h
          by_cases z0 : 0 ≤ z
          · rw [if_pos z0] at h
            by_cases z1 : z < (l0.length : Int)
            · rw [if_pos z1] at h
              obtain ⟨ad, e1, hx⟩ := Kd.at_int hc x x0 x1
              subst e1
              obtain ⟨ad2, e2, hy⟩ := Kd.at_int hc y y0 y1
              obtain rfl : ad = ad2 := by injection e2
              obtain ⟨ad3, e3, hz⟩ := Kd.at_int hc z z0 z1
              obtain rfl : ad = ad3 := by injection e3
              have px0 := eq_true x0
              have px1 := eq_true x1
              have py0 := eq_true y0
              have py1 := eq_true y1
              have pz0 := eq_true z0
              have pz1 := eq_true z1
              obtain ⟨p, hp⟩ : ∃ p : Int, wrap64 (rd l0 x + rd l0 y) = p := ⟨_, rfl⟩
              rw [hp] at h
              have hpw : IntKind.i64.wrap (rd l0 x + rd l0 y) = p := (i64_w _).trans hp
              clear x0 x1 y0 y1 z0 z1 e2 e3 hc hr0 hR1 hR2 hR3 hg hne
              by_cases hc : rd l0 z < p
              · rw [if_pos hc] at h
                have hcb : decide (rd l0 z < p) = true := decide_eq_true hc
                obtain ⟨q, hq⟩ : ∃ q : Int, wrap64 (p + rd l0 z) = q := ⟨_, rfl⟩
                rw [hq] at h
                have hqw : IntKind.i64.wrap (p + rd l0 z) = q := (i64_w _).trans hq
                have hm : (if s < q then q else s) = s' := Option.some.inj h
                clear h hc hp hq
                go_enter Try.func53, Try.ntmps53
                go_wp2
                go_quiet (fail)
                go_wp2
                go_region
                all_goals go_wp2
                all_goals go_end0
                all_goals exact ⟨rfl, blk_put (blk_drewN HR1.out _) 0 _ rfl, blk_far (blk_drewN HR3.out _) HN.out _, (pw_below_drewN HR2.out _).setCell HG.out _⟩
              · rw [if_neg hc] at h
                have hcb : decide (rd l0 z < p) = false := decide_eq_false hc
                obtain rfl := Option.some.inj h
                clear h hc hp
                go_enter Try.func53, Try.ntmps53
                go_wp2
                go_quiet (fail)
                go_wp2
                go_end0
                exact ⟨rfl, blk_drewN HR1.out _, blk_drewN HR3.out _, pw_below_drewN HR2.out _⟩
            · rw [if_neg z1] at h
              exact absurd h (by simp)
          · rw [if_neg z0] at h
            exact absurd h (by simp)
        · rw [if_neg y1] at h
          exact absurd h (by simp)
      · rw [if_neg y0] at h
        exact absurd h (by simp)
    · rw [if_neg x1] at h
      exact absurd h (by simp)
  · rw [if_neg x0] at h
    exact absurd h (by simp)
set_option maxHeartbeats 4000000 in
set_option maxRecDepth 100000 in
theorem impl_StickWidest.calls (k : Nat) (A0 : Option Addr) (c0 : Nat) (l0 : List Int) (r1 : Int) (r2 : Bool) (w : World) (hr0 : Kd.C (Kd.int .i64) w A0 l0.length l0) (hc0 : l0.length ≤ c0) (h : impl_StickWidest.f k l0 = some (r1, r2)) :
    Calls Try.prog 29 #[.slice A0 l0.length c0] w fun e w' => e = .returned (.tuple #[.int .i64 r1, .bool r2]) ∧ Below w.heap.size w w' := by
  have HR0 := Aside0.mk hr0
  have HC0 := Aside0.mk hc0
  clear hr0 hc0
  have HB := Aside0.mk (Below.refl w.heap.size w)
  obtain ⟨t, h1, h⟩ := Option.bind_eq_some_iff.mp h
  have A1 := Aside0.mk h1
  clear h1
  by_cases c3 : t = true
  · subst c3
    rw [if_pos rfl] at h
    obtain ⟨r, h3, h⟩ := Option.bind_eq_some_iff.mp h
    simp only [Option.some.injEq, Prod.mk.injEq] at h
    obtain ⟨rfl, hr2⟩ := h
    have A3 := Aside0.mk h3
    clear h3
    have hmf : ∀ (fn : Fn) (first cap : Array Value) (w : World), (Instr.makeFunc fn first cap).run Try.prog w = .ok (.func fn first cap) w := fun _ _ _ _ => rfl
    have ca : ∀ m, (((w.alloc (Obj.cells #[.slice A0 l0.length c0] 23)).drewN m).alloc (Obj.cells #[.int .i64 0] 3)).cell? ⟨w.heap.size + 1, 0, none⟩ = some (.int .i64 0) := fun m => blk_cell (impl_StickWidest.heap_new (by simp)) 0
    have fa : ∀ m, (((w.alloc (Obj.cells #[.slice A0 l0.length c0] 23)).drewN m).alloc (Obj.cells #[.int .i64 0] 3)).frozen? ⟨w.heap.size + 1, 0, none⟩ = false := fun m => blk_frozen (impl_StickWidest.heap_new (by simp)) 0
    have hb0 : ∀ m, Below w.heap.size w (((w.alloc (Obj.cells #[.slice A0 l0.length c0] 23)).drewN m).alloc (Obj.cells #[.int .i64 0] 3)) := fun m => below_alloc (pw_below_drewN (below_alloc (Below.refl w.heap.size w) _) m) _
    have HBM := Aside0.mk hb0
    clear hb0
    go_enter Try.func29, Try.ntmps29
    go_wp2_with (first
      | (go_at_call 34; refine (impl_StickIn.calls k _ _ l0 true _ (by repeat (first | exact HR0.out | (with_reducible refine Kd.C_alloc ?_ _) | (with_reducible refine Kd.C_drewN ?_ _) | (with_reducible refine Kd.C_drew ?_))) HC0.out A1.out).mono ?_; rintro e w1 ⟨rfl, ⟨⟨n, rfl⟩⟩⟩)
      | (go_at_call 52; refine (impl_threes.calls (impl_StickWidest.step l0) 53 _ Try.func53 (by kernel_rfl) rfl #[.pointer (some ⟨w.heap.size, 0, none⟩), .pointer (some ⟨w.heap.size + 1, 0, none⟩)] (impl_StickWidest.R A0 l0.length c0 w.heap.size (w.heap.size + 1) w) k A0 c0 l0 0 r _ ?ht ?hs A3.out).mono ?_; (case ht => exact fun s s' x y z w1 h1 h2 => impl_StickWidest.tell l0 A0 c0 _ _ w s s' x y z w1 (fun w' hb => Kd.C_below HR0.out hb) (by omega) h1 h2); (case hs => exact ⟨impl_StickWidest.heap_new (by simp), blk_alloc (blk_drewN (heap_alloc_new w _) _) _, HBM.out _⟩); rintro e w2 ⟨rfl, hs⟩; have c2 := blk_cell hs.1 0; have HB2 := Aside0.mk hs.2.2; clear hs))
    go_quiet (fail)
    go_wp2
    go_ret2
    exact ⟨by simp [← hr2], by repeat (first | exact HB2.out | apply pw_below_drewN)⟩
  · replace c3 := Bool.eq_false_iff.mpr c3
    subst c3
    rw [if_neg (by decide)] at h
    simp only [Option.some.injEq, Prod.mk.injEq] at h
    obtain ⟨rfl, rfl⟩ := h
    go_enter Try.func29, Try.ntmps29
    go_wp2_with (first
      | (go_at_call 34; refine (impl_StickIn.calls k _ _ l0 false _ (by repeat (first | exact HR0.out | (with_reducible refine Kd.C_alloc ?_ _) | (with_reducible refine Kd.C_drewN ?_ _) | (with_reducible refine Kd.C_drew ?_))) HC0.out A1.out).mono ?_; rintro e w1 ⟨rfl, ⟨⟨n, rfl⟩⟩⟩))
    go_ret2
    exact ⟨rfl, by repeat (first | (with_reducible first | exact HB.out | apply below_alloc | apply pw_below_drewN | apply below_drew1) | exact HB.out)⟩

/-! ### laws_FnPartRound: function 7 -/
def laws_FnPartRound.j0 : Nat → List Int → Int → Bool → Int → Bool → Bool → Option (Bool)
  | 0, _, _, _, _, _, _ => none
  | k + 1, x3, x4, x5, x6, x7, x36 => if x36 = true then (if (x5 == x7) = true then (some (x4 == x6)) else (some false)) else ((impl_StickWidest.f k x3).bind fun bt304 => ((laws_total.f k x3).bind fun t306 => (if x4 ≤ t306 then (if ((x4 == 0) == (!bt304.2)) = true then (if bt304.2 = true then (some (decide (x4 ≥ bt304.1))) else (some true)) else (some false)) else (some false))))
def laws_FnPartRound.f (k : Nat) (l0 : List Int) : Option (Bool) := if (l0.length : Int) > 1048576 then (some true) else ((spec_DrawPartRound.f k l0).bind fun t297 => ((impl_PartRound.f k t297).bind fun bt300 => ((spec_PartRound.f k t297).bind fun bt302 => (if (bt300.2 != bt302.2) = true then (laws_FnPartRound.j0 k t297 bt300.1 bt300.2 bt302.1 bt302.2 true) else (if bt300.1 = bt302.1 then (laws_FnPartRound.j0 k t297 bt300.1 bt300.2 bt302.1 bt302.2 (!bt300.2)) else (laws_FnPartRound.j0 k t297 bt300.1 bt300.2 bt302.1 bt302.2 true))))))
theorem laws_FnPartRound.mono_l : ∀ k, (∀ y0 y1 y2 y3 y4 y5, LeO (laws_FnPartRound.j0 k y0 y1 y2 y3 y4 y5) (laws_FnPartRound.j0 (k + 1) y0 y1 y2 y3 y4 y5))
  | 0 => fun _ _ _ _ _ _ r h => by simp [laws_FnPartRound.j0] at h
  | k + 1 => by
    have ih0 := laws_FnPartRound.mono_l k
    · intro y0 y1 y2 y3 y4 y5
      unfold laws_FnPartRound.j0
      repeat' first
      | (with_reducible exact ih0 _ _ _ _ _ _)
      | (with_reducible exact impl_PartRound.mono _ _)
      | (with_reducible exact impl_StickWidest.mono _ _)
      | (with_reducible exact laws_total.mono _ _)
      | (with_reducible exact spec_DrawPartRound.mono _ _)
      | (with_reducible exact spec_PartRound.mono _ _)
      | (with_reducible exact LeO.refl _)
      | (with_reducible exact LeO.none _)
      | (with_reducible refine LeO.ite ?_ ?_)
      | (with_reducible refine LeO.bind ?_ (fun _ => ?_))
      | exact ih0 _ _ _ _ _ _
      | exact impl_PartRound.mono _ _
      | exact impl_StickWidest.mono _ _
      | exact laws_total.mono _ _
      | exact spec_DrawPartRound.mono _ _
      | exact spec_PartRound.mono _ _
      | exact LeO.none _
      | refine LeO.ite ?_ ?_
      | refine LeO.bind ?_ (fun _ => ?_)
theorem laws_FnPartRound.mono : ∀ a0 k, LeO (laws_FnPartRound.f k a0) (laws_FnPartRound.f (k + 1) a0) := by
  intro a0 k
  have ih0 := laws_FnPartRound.mono_l k
  unfold laws_FnPartRound.f
  repeat' first
      | (with_reducible exact ih0 _ _ _ _ _ _)
      | (with_reducible exact impl_PartRound.mono _ _)
      | (with_reducible exact impl_StickWidest.mono _ _)
      | (with_reducible exact laws_total.mono _ _)
      | (with_reducible exact spec_DrawPartRound.mono _ _)
      | (with_reducible exact spec_PartRound.mono _ _)
      | (with_reducible exact LeO.refl _)
      | (with_reducible exact LeO.none _)
      | (with_reducible refine LeO.ite ?_ ?_)
      | (with_reducible refine LeO.bind ?_ (fun _ => ?_))
      | exact ih0 _ _ _ _ _ _
      | exact impl_PartRound.mono _ _
      | exact impl_StickWidest.mono _ _
      | exact laws_total.mono _ _
      | exact spec_DrawPartRound.mono _ _
      | exact spec_PartRound.mono _ _
      | exact LeO.none _
      | refine LeO.ite ?_ ?_
      | refine LeO.bind ?_ (fun _ => ?_)
set_option maxHeartbeats 8000000 in
set_option maxRecDepth 100000 in
theorem laws_FnPartRound.calls (k : Nat) (A0 : Option Addr) (c0 : Nat) (l0 : List Int) (r : Bool) (w : World) (hr0 : Kd.C (Kd.int .u8) w A0 l0.length l0) (hc0 : l0.length ≤ c0) (h : laws_FnPartRound.f k l0 = some r) :
    Calls Try.prog 7 #[.slice A0 l0.length c0] w fun e w' => e = .returned (.bool r) ∧ Below w.heap.size w w' := by
  have HR0 := Aside0.mk hr0
  have HC0 := Aside0.mk hc0
  clear hr0 hc0
  have HB := Aside0.mk (Below.refl w.heap.size w)
  have H : (if (l0.length : Int) > 1048576 then (some true) else ((spec_DrawPartRound.f k l0).bind fun t297 => ((impl_PartRound.f k t297).bind fun bt300 => ((spec_PartRound.f k t297).bind fun bt302 => (if (bt300.2 != bt302.2) = true then (laws_FnPartRound.j0 k t297 bt300.1 bt300.2 bt302.1 bt302.2 true) else (if bt300.1 = bt302.1 then (laws_FnPartRound.j0 k t297 bt300.1 bt300.2 bt302.1 bt302.2 (!bt300.2)) else (laws_FnPartRound.j0 k t297 bt300.1 bt300.2 bt302.1 bt302.2 true))))))) = some r := h
  clear h
  by_cases c2 : (l0.length : Int) > 1048576
  · rw [if_pos c2] at H
    have c2b0 : decide (1048576 < (l0.length : Int)) = true := decide_eq_true c2
    have c2b1 : decide (1048576 < l0.length) = true := decide_eq_true (by omega)
    clear c2
    obtain rfl := Option.some.inj H
    go_enter Try.func7, Try.ntmps7
    go_wp2
    go_ret
    exact ⟨by first | rfl | (simp [errW_none, errW_some] <;> rfl) | (simp [*, errW_none, errW_some] <;> rfl) | (exfalso; simp_all; done), by repeat (first | (with_reducible first | exact HB.out | apply below_alloc | apply pw_below_drewN | apply below_drew1) | exact HB.out)⟩
  · rw [if_neg c2] at H
    have c2b0 : decide (1048576 < (l0.length : Int)) = false := decide_eq_false c2
    have c2b1 : decide (1048576 < l0.length) = false := decide_eq_false (by omega)
    clear c2
    replace H := Option.bind_eq_some_iff.mp H
    obtain ⟨t297, A30, H⟩ := H
    replace H : ((impl_PartRound.f k t297).bind fun bt300 => ((spec_PartRound.f k t297).bind fun bt302 => (if (bt300.2 != bt302.2) = true then (laws_FnPartRound.j0 k t297 bt300.1 bt300.2 bt302.1 bt302.2 true) else (if bt300.1 = bt302.1 then (laws_FnPartRound.j0 k t297 bt300.1 bt300.2 bt302.1 bt302.2 (!bt300.2)) else (laws_FnPartRound.j0 k t297 bt300.1 bt300.2 bt302.1 bt302.2 true))))) = some r := H
    have A3 := Aside0.mk A30
    clear A30
    replace H := Option.bind_eq_some_iff.mp H
    obtain ⟨⟨t300, t301⟩, A40, H⟩ := H
    replace H : ((spec_PartRound.f k t297).bind fun bt302 => (if (t301 != bt302.2) = true then (laws_FnPartRound.j0 k t297 t300 t301 bt302.1 bt302.2 true) else (if t300 = bt302.1 then (laws_FnPartRound.j0 k t297 t300 t301 bt302.1 bt302.2 (!t301)) else (laws_FnPartRound.j0 k t297 t300 t301 bt302.1 bt302.2 true)))) = some r := H
    have A4 := Aside0.mk A40
    clear A40
    replace H := Option.bind_eq_some_iff.mp H
    obtain ⟨⟨t302, t303⟩, A50, H⟩ := H
    replace H : (if (t301 != t303) = true then (laws_FnPartRound.j0 k t297 t300 t301 t302 t303 true) else (if t300 = t302 then (laws_FnPartRound.j0 k t297 t300 t301 t302 t303 (!t301)) else (laws_FnPartRound.j0 k t297 t300 t301 t302 t303 true))) = some r := H
    have A5 := Aside0.mk A50
    clear A50
    have HC6 := Aside0.mk H
    clear H
    go_enter Try.func7, Try.ntmps7
    go_upto_region 6 with (first | ((with_reducible refine gate_callee (f := 27) rfl ?_); refine goesL_ (some 14) rfl rfl Try.func27 (by kernel_rfl) rfl #[.slice A0 l0.length c0] rfl (by (try simp only [List.map_toArray, List.map_cons, List.map_nil]); first | done | rfl | (simp only [List.length_drop, List.length_take]; rfl)) ?_; (with_reducible refine (spec_DrawPartRound.calls k _ _ l0 t297 _ ?side1 ?side2 A3.out).mono ?_); (case side1 => repeat (first | exact HR0.out | (with_reducible refine Kd.C_alloc ?_ _) | (with_reducible refine Kd.C_drewN ?_ _) | (with_reducible refine Kd.C_drew ?_))); (case side2 => exact HC0.out); rintro e w7 ⟨v298, rfl, ho0, hb⟩; refine ⟨_, rfl, ?_⟩; have n0_ := Aside0.mk (Kd.R_lower ho0 (below_size (by repeat (first | (with_reducible first | exact HB.out | apply below_alloc | apply pw_below_drewN | apply below_drew1) | exact HB.out)))); have n1_ := Aside0.mk (below_step (by repeat (first | (with_reducible first | exact HB.out | apply below_alloc | apply pw_below_drewN | apply below_drew1) | exact HB.out)) hb); clear HB; have HO299 := n0_; have HB := n1_; clear n0_ n1_; (try clear hb); (try clear hb2); (try clear hk); (try clear hi); (try clear ho0); obtain ⟨Ao8, co8, eo8⟩ := Kd.R_slice HO299.out; subst eo8) | ((with_reducible refine gate_callee (f := 22) rfl ?_); refine goesL_ (some 17) rfl rfl Try.func22 (by kernel_rfl) rfl #[.slice Ao8 t297.length co8] rfl (by (try simp only [List.map_toArray, List.map_cons, List.map_nil]); first | done | rfl | (simp only [List.length_drop, List.length_take]; rfl)) ?_; (with_reducible refine (impl_PartRound.calls k _ _ t297 t300 t301 _ ?side1 ?side2 A4.out).mono ?_); (case side1 => repeat (first | exact (Kd.R_reads' HO299.out).2.2 | (with_reducible refine Kd.C_alloc ?_ _) | (with_reducible refine Kd.C_drewN ?_ _) | (with_reducible refine Kd.C_drew ?_))); (case side2 => exact (Kd.R_reads' HO299.out).2.1); rintro e w9 ⟨rfl, hb⟩; refine ⟨_, rfl, ?_⟩; have n0_ := Aside0.mk (Kd.R_below (by (with_reducible repeat (first | apply Kd.R_alloc | apply Kd.R_drewN | apply Kd.R_drew)); exact HO299.out) hb); have n1_ := Aside0.mk (below_step (by repeat (first | (with_reducible first | exact HB.out | apply below_alloc | apply pw_below_drewN | apply below_drew1) | exact HB.out)) hb); clear HO299; clear HB; have HO299 := n0_; have HB := n1_; clear n0_ n1_; (try clear hb); (try clear hb2); (try clear hk); (try clear hi)) | ((with_reducible refine gate_callee (f := 28) rfl ?_); refine goesL_ (some 22) rfl rfl Try.func28 (by kernel_rfl) rfl #[.slice Ao8 t297.length co8] rfl (by (try simp only [List.map_toArray, List.map_cons, List.map_nil]); first | done | rfl | (simp only [List.length_drop, List.length_take]; rfl)) ?_; (with_reducible refine (spec_PartRound.calls k _ _ t297 t302 t303 _ ?side1 ?side2 A5.out).mono ?_); (case side1 => repeat (first | exact (Kd.R_reads' HO299.out).2.2 | (with_reducible refine Kd.C_alloc ?_ _) | (with_reducible refine Kd.C_drewN ?_ _) | (with_reducible refine Kd.C_drew ?_))); (case side2 => exact (Kd.R_reads' HO299.out).2.1); rintro e w10 ⟨rfl, hb⟩; refine ⟨_, rfl, ?_⟩; have n0_ := Aside0.mk (Kd.R_below (by (with_reducible repeat (first | apply Kd.R_alloc | apply Kd.R_drewN | apply Kd.R_drew)); exact HO299.out) hb); have n1_ := Aside0.mk (below_step (by repeat (first | (with_reducible first | exact HB.out | apply below_alloc | apply pw_below_drewN | apply below_drew1) | exact HB.out)) hb); clear HO299; clear HB; have HO299 := n0_; have HB := n1_; clear n0_ n1_; (try clear hb); (try clear hb2); (try clear hk); (try clear hi)))
    (try simp only [Act.put, List.setIfInBounds_toArray, List.set_cons_zero, List.set_cons_succ])
    go_cut [36] (fun v36 wc => ∃ (kq : Nat) (x36_5 : Bool), v36 = .bool x36_5 ∧ Aside0 (laws_FnPartRound.j0 kq t297 t300 t301 t302 t303 x36_5 = some r) ∧ Aside0 (kq ≤ k) ∧ Aside0 (Kd.R (Kd.int .i64) 3 wc w.heap.size (fun _ => True) (.slice Ao8 t297.length co8) t297) ∧ Aside0 (Below w.heap.size w wc))
    case first =>
      have H := HC6.out
      clear HC6
      by_cases c11 : (t301 != t303) = true
      · rw [if_pos c11] at H
        have c11b0 : (t301 != t303) = true := c11
        (try (have c11b1 : decide (t301 = t303) = false := by simpa using c11))
        (try (have c11b2 : (t301 == t303) = false := by simpa using c11))
        (try (have c11b3 : ¬ (t301 = t303) := by simpa using c11))
        clear c11
        (first | rw [c11b0] | (simp only [i64_w, i32_w]; rw [c11b0]) | skip)
        have H' := Aside0.mk H
        clear H
        go_wp2
        go_meet
        case rel => exact ⟨_, (true), (by first | rfl | (simp; done) | (simp [*]; done)), H', ⟨by first | omega | exact Nat.le_refl _⟩, ⟨by (with_reducible repeat (first | apply Kd.R_alloc | apply Kd.R_drewN | apply Kd.R_drew)); exact HO299.out⟩, ⟨by repeat (first | (with_reducible first | exact HB.out | apply below_alloc | apply pw_below_drewN | apply below_drew1) | exact HB.out)⟩⟩
      · rw [if_neg c11] at H
        have c11b0 : (t301 != t303) = false := by simpa using c11
        (try (have c11b1 : decide (t301 = t303) = true := by simpa using c11))
        (try (have c11b2 : (t301 == t303) = true := by simpa using c11))
        clear c11
        (first | rw [c11b0] | (simp only [i64_w, i32_w]; rw [c11b0]) | skip)
        by_cases c12 : t300 = t302
        · rw [if_pos c12] at H
          have c12b0 : (t300 == t302) = true := beq_iff_eq.mpr c12
          have c12b1 : (t300 != t302) = false := bne_eq_false_iff_eq.mpr c12
          clear c12
          have H' := Aside0.mk H
          clear H
          go_wp2
          go_meet
          case rel => exact ⟨_, (!t301), (by first | rfl | (simp; done) | (simp [*]; done)), H', ⟨by first | omega | exact Nat.le_refl _⟩, ⟨by (with_reducible repeat (first | apply Kd.R_alloc | apply Kd.R_drewN | apply Kd.R_drew)); exact HO299.out⟩, ⟨by repeat (first | (with_reducible first | exact HB.out | apply below_alloc | apply pw_below_drewN | apply below_drew1) | exact HB.out)⟩⟩
        · rw [if_neg c12] at H
          have c12b0 : (t300 == t302) = false := beq_eq_false_iff_ne.mpr c12
          have c12b1 : (t300 != t302) = true := bne_iff_ne.mpr c12
          have H' := Aside0.mk H
          clear H
          go_wp2
          go_meet
          case rel => exact ⟨_, (true), (by first | rfl | (simp; done) | (simp [*]; done)), H', ⟨by first | omega | exact Nat.le_refl _⟩, ⟨by (with_reducible repeat (first | apply Kd.R_alloc | apply Kd.R_drewN | apply Kd.R_drew)); exact HO299.out⟩, ⟨by repeat (first | (with_reducible first | exact HB.out | apply below_alloc | apply pw_below_drewN | apply below_drew1) | exact HB.out)⟩⟩
    case rest =>
      clear HC6
      try clear c1
      try clear c2
      try clear c2b0
      try clear c2b1
      try clear p2
      try clear c7
      try clear c11
      try clear c11b0
      try clear c11b1
      try clear c11b2
      try clear c12
      try clear c12b0
      try clear c12b1
      obtain ⟨kq, x36_5, rfl, HA, HJ5, HO_3, HB⟩ := hcut
      cases kq with
      | zero => exact absurd HA.out (by simp [laws_FnPartRound.j0])
      | succ kj5 =>
        have H := HA.out
        clear HA
        simp only [laws_FnPartRound.j0] at H
        by_cases c13 : x36_5 = true
        · subst c13
          have H1 : (if (t301 == t303) = true then (some (t300 == t302)) else (some false)) = some r := by rw [if_pos rfl] at H; exact H
          clear H
          have H := H1
          clear H1
          by_cases c14 : (t301 == t303) = true
          · rw [if_pos c14] at H
            have c14b0 : (t301 == t303) = true := c14
            (try (have c14b1 : decide (t301 = t303) = true := by simpa using c14))
            (try (have c14b2 : (t301 == t303) = true := by simpa using c14))
            clear c14
            obtain rfl := Option.some.inj H
            go_wp2
            go_ret
            exact ⟨by first | rfl | (simp [errW_none, errW_some] <;> rfl) | (simp [*, errW_none, errW_some] <;> rfl) | (exfalso; simp_all; done), by repeat (first | (with_reducible first | exact HB.out | apply below_alloc | apply pw_below_drewN | apply below_drew1) | exact HB.out)⟩
          · rw [if_neg c14] at H
            have c14b0 : (t301 == t303) = false := by simpa using c14
            (try (have c14b1 : decide (t301 = t303) = false := by simpa using c14))
            (try (have c14b2 : (t301 == t303) = false := by simpa using c14))
            (try (have c14b3 : ¬ (t301 = t303) := by simpa using c14))
            clear c14
            obtain rfl := Option.some.inj H
            go_wp2
            go_ret
            exact ⟨by first | rfl | (simp [errW_none, errW_some] <;> rfl) | (simp [*, errW_none, errW_some] <;> rfl) | (exfalso; simp_all; done), by repeat (first | (with_reducible first | exact HB.out | apply below_alloc | apply pw_below_drewN | apply below_drew1) | exact HB.out)⟩
        · replace c13 := Bool.eq_false_iff.mpr c13
          subst c13
          have H1 : ((impl_StickWidest.f kj5 t297).bind fun bt304 => ((laws_total.f kj5 t297).bind fun t306 => (if t300 ≤ t306 then (if ((t300 == 0) == (!bt304.2)) = true then (if bt304.2 = true then (some (decide (t300 ≥ bt304.1))) else (some true)) else (some false)) else (some false)))) = some r := by rw [if_neg (show ¬ (false = true) by decide)] at H; exact H
          clear H
          have H := H1
          clear H1
          replace H := Option.bind_eq_some_iff.mp H
          obtain ⟨⟨t304, t305⟩, A150, H⟩ := H
          replace H : ((laws_total.f kj5 t297).bind fun t306 => (if t300 ≤ t306 then (if ((t300 == 0) == (!t305)) = true then (if t305 = true then (some (decide (t300 ≥ t304))) else (some true)) else (some false)) else (some false))) = some r := H
          have A15 := Aside0.mk A150
          clear A150
          replace H := Option.bind_eq_some_iff.mp H
          obtain ⟨t306, A160, H⟩ := H
          replace H : (if t300 ≤ t306 then (if ((t300 == 0) == (!t305)) = true then (if t305 = true then (some (decide (t300 ≥ t304))) else (some true)) else (some false)) else (some false)) = some r := H
          have A16 := Aside0.mk A160
          clear A160
          by_cases c17 : t300 ≤ t306
          · rw [if_pos c17] at H
            have c17b0 : decide (t300 ≤ t306) = true := decide_eq_true c17
            clear c17
            by_cases c18 : ((t300 == 0) == (!t305)) = true
            · rw [if_pos c18] at H
              have c18b0 : ((t300 == 0) == (!t305)) = true := c18
              (try (have c18b1 : decide ((t300 == 0) = (!t305)) = true := by simpa using c18))
              (try (have c18b2 : ((t300 == 0) == (!t305)) = true := by simpa using c18))
              clear c18
              by_cases c19 : t305 = true
              · subst c19
                have c18d : (t300 == 0) = false := by simpa using c18b0
                have H1 : (some (decide (t300 ≥ t304))) = some r := by rw [if_pos rfl] at H; exact H
                clear H
                have H := H1
                clear H1
                obtain rfl := Option.some.inj H
                go_wp2_with (first | ((with_reducible refine gate_callee (f := 29) rfl ?_); refine goesL_ (some 47) rfl rfl Try.func29 (by kernel_rfl) rfl #[.slice Ao8 t297.length co8] rfl (by (try simp only [List.map_toArray, List.map_cons, List.map_nil]); first | done | rfl | (simp only [List.length_drop, List.length_take]; rfl)) ?_; (with_reducible refine (impl_StickWidest.calls kj5 _ _ t297 t304 true _ ?side1 ?side2 A15.out).mono ?_); (case side1 => repeat (first | exact (Kd.R_reads' HO_3.out).2.2 | (with_reducible refine Kd.C_alloc ?_ _) | (with_reducible refine Kd.C_drewN ?_ _) | (with_reducible refine Kd.C_drew ?_))); (case side2 => exact (Kd.R_reads' HO_3.out).2.1); rintro e w20 ⟨rfl, hb⟩; refine ⟨_, rfl, ?_⟩; have n0_ := Aside0.mk (Kd.R_below (by (with_reducible repeat (first | apply Kd.R_alloc | apply Kd.R_drewN | apply Kd.R_drew)); exact HO_3.out) hb); have n1_ := Aside0.mk (below_step (by repeat (first | (with_reducible first | exact HB.out | apply below_alloc | apply pw_below_drewN | apply below_drew1) | exact HB.out)) hb); clear HO_3; clear HB; have HO_3 := n0_; have HB := n1_; clear n0_ n1_; (try clear hb); (try clear hb2); (try clear hk); (try clear hi)) | ((with_reducible refine gate_callee (f := 23) rfl ?_); refine goesL_ (some 52) rfl rfl Try.func23 (by kernel_rfl) rfl #[.slice Ao8 t297.length co8] rfl (by (try simp only [List.map_toArray, List.map_cons, List.map_nil]); first | done | rfl | (simp only [List.length_drop, List.length_take]; rfl)) ?_; (with_reducible refine (laws_total.calls kj5 _ _ t297 t306 _ ?side1 ?side2 A16.out).mono ?_); (case side1 => repeat (first | exact (Kd.R_reads' HO_3.out).2.2 | (with_reducible refine Kd.C_alloc ?_ _) | (with_reducible refine Kd.C_drewN ?_ _) | (with_reducible refine Kd.C_drew ?_))); (case side2 => exact (Kd.R_reads' HO_3.out).2.1); rintro e w' ⟨rfl, ⟨nd, rfl⟩⟩; refine ⟨_, rfl, ?_⟩))
                go_ret
                exact ⟨by first | rfl | (simp [errW_none, errW_some] <;> rfl) | (simp [*, errW_none, errW_some] <;> rfl) | (exfalso; simp_all; done), by repeat (first | (with_reducible first | exact HB.out | apply below_alloc | apply pw_below_drewN | apply below_drew1) | exact HB.out)⟩
              · replace c19 := Bool.eq_false_iff.mpr c19
                subst c19
                have c18d : (t300 == 0) = true := by simpa using c18b0
                have H1 : (some true) = some r := by rw [if_neg (show ¬ (false = true) by decide)] at H; exact H
                clear H
                have H := H1
                clear H1
                obtain rfl := Option.some.inj H
                go_wp2_with (first | ((with_reducible refine gate_callee (f := 29) rfl ?_); refine goesL_ (some 47) rfl rfl Try.func29 (by kernel_rfl) rfl #[.slice Ao8 t297.length co8] rfl (by (try simp only [List.map_toArray, List.map_cons, List.map_nil]); first | done | rfl | (simp only [List.length_drop, List.length_take]; rfl)) ?_; (with_reducible refine (impl_StickWidest.calls kj5 _ _ t297 t304 false _ ?side1 ?side2 A15.out).mono ?_); (case side1 => repeat (first | exact (Kd.R_reads' HO_3.out).2.2 | (with_reducible refine Kd.C_alloc ?_ _) | (with_reducible refine Kd.C_drewN ?_ _) | (with_reducible refine Kd.C_drew ?_))); (case side2 => exact (Kd.R_reads' HO_3.out).2.1); rintro e w21 ⟨rfl, hb⟩; refine ⟨_, rfl, ?_⟩; have n0_ := Aside0.mk (Kd.R_below (by (with_reducible repeat (first | apply Kd.R_alloc | apply Kd.R_drewN | apply Kd.R_drew)); exact HO_3.out) hb); have n1_ := Aside0.mk (below_step (by repeat (first | (with_reducible first | exact HB.out | apply below_alloc | apply pw_below_drewN | apply below_drew1) | exact HB.out)) hb); clear HO_3; clear HB; have HO_3 := n0_; have HB := n1_; clear n0_ n1_; (try clear hb); (try clear hb2); (try clear hk); (try clear hi)) | ((with_reducible refine gate_callee (f := 23) rfl ?_); refine goesL_ (some 52) rfl rfl Try.func23 (by kernel_rfl) rfl #[.slice Ao8 t297.length co8] rfl (by (try simp only [List.map_toArray, List.map_cons, List.map_nil]); first | done | rfl | (simp only [List.length_drop, List.length_take]; rfl)) ?_; (with_reducible refine (laws_total.calls kj5 _ _ t297 t306 _ ?side1 ?side2 A16.out).mono ?_); (case side1 => repeat (first | exact (Kd.R_reads' HO_3.out).2.2 | (with_reducible refine Kd.C_alloc ?_ _) | (with_reducible refine Kd.C_drewN ?_ _) | (with_reducible refine Kd.C_drew ?_))); (case side2 => exact (Kd.R_reads' HO_3.out).2.1); rintro e w' ⟨rfl, ⟨nd, rfl⟩⟩; refine ⟨_, rfl, ?_⟩))
                go_ret
                exact ⟨by first | rfl | (simp [errW_none, errW_some] <;> rfl) | (simp [*, errW_none, errW_some] <;> rfl) | (exfalso; simp_all; done), by repeat (first | (with_reducible first | exact HB.out | apply below_alloc | apply pw_below_drewN | apply below_drew1) | exact HB.out)⟩
            · rw [if_neg c18] at H
              have c18b0 : ((t300 == 0) == (!t305)) = false := by simpa using c18
              (try (have c18b1 : decide ((t300 == 0) = (!t305)) = false := by simpa using c18))
              (try (have c18b2 : ((t300 == 0) == (!t305)) = false := by simpa using c18))
              (try (have c18b3 : ¬ ((t300 == 0) = (!t305)) := by simpa using c18))
              clear c18
              obtain rfl := Option.some.inj H
              go_wp2_with (first | ((with_reducible refine gate_callee (f := 29) rfl ?_); refine goesL_ (some 47) rfl rfl Try.func29 (by kernel_rfl) rfl #[.slice Ao8 t297.length co8] rfl (by (try simp only [List.map_toArray, List.map_cons, List.map_nil]); first | done | rfl | (simp only [List.length_drop, List.length_take]; rfl)) ?_; (with_reducible refine (impl_StickWidest.calls kj5 _ _ t297 t304 t305 _ ?side1 ?side2 A15.out).mono ?_); (case side1 => repeat (first | exact (Kd.R_reads' HO_3.out).2.2 | (with_reducible refine Kd.C_alloc ?_ _) | (with_reducible refine Kd.C_drewN ?_ _) | (with_reducible refine Kd.C_drew ?_))); (case side2 => exact (Kd.R_reads' HO_3.out).2.1); rintro e w22 ⟨rfl, hb⟩; refine ⟨_, rfl, ?_⟩; have n0_ := Aside0.mk (Kd.R_below (by (with_reducible repeat (first | apply Kd.R_alloc | apply Kd.R_drewN | apply Kd.R_drew)); exact HO_3.out) hb); have n1_ := Aside0.mk (below_step (by repeat (first | (with_reducible first | exact HB.out | apply below_alloc | apply pw_below_drewN | apply below_drew1) | exact HB.out)) hb); clear HO_3; clear HB; have HO_3 := n0_; have HB := n1_; clear n0_ n1_; (try clear hb); (try clear hb2); (try clear hk); (try clear hi)) | ((with_reducible refine gate_callee (f := 23) rfl ?_); refine goesL_ (some 52) rfl rfl Try.func23 (by kernel_rfl) rfl #[.slice Ao8 t297.length co8] rfl (by (try simp only [List.map_toArray, List.map_cons, List.map_nil]); first | done | rfl | (simp only [List.length_drop, List.length_take]; rfl)) ?_; (with_reducible refine (laws_total.calls kj5 _ _ t297 t306 _ ?side1 ?side2 A16.out).mono ?_); (case side1 => repeat (first | exact (Kd.R_reads' HO_3.out).2.2 | (with_reducible refine Kd.C_alloc ?_ _) | (with_reducible refine Kd.C_drewN ?_ _) | (with_reducible refine Kd.C_drew ?_))); (case side2 => exact (Kd.R_reads' HO_3.out).2.1); rintro e w' ⟨rfl, ⟨nd, rfl⟩⟩; refine ⟨_, rfl, ?_⟩))
              go_ret
              exact ⟨by first | rfl | (simp [errW_none, errW_some] <;> rfl) | (simp [*, errW_none, errW_some] <;> rfl) | (exfalso; simp_all; done), by repeat (first | (with_reducible first | exact HB.out | apply below_alloc | apply pw_below_drewN | apply below_drew1) | exact HB.out)⟩
          · rw [if_neg c17] at H
            have c17b0 : decide (t300 ≤ t306) = false := decide_eq_false c17
            clear c17
            obtain rfl := Option.some.inj H
            go_wp2_with (first | ((with_reducible refine gate_callee (f := 29) rfl ?_); refine goesL_ (some 47) rfl rfl Try.func29 (by kernel_rfl) rfl #[.slice Ao8 t297.length co8] rfl (by (try simp only [List.map_toArray, List.map_cons, List.map_nil]); first | done | rfl | (simp only [List.length_drop, List.length_take]; rfl)) ?_; (with_reducible refine (impl_StickWidest.calls kj5 _ _ t297 t304 t305 _ ?side1 ?side2 A15.out).mono ?_); (case side1 => repeat (first | exact (Kd.R_reads' HO_3.out).2.2 | (with_reducible refine Kd.C_alloc ?_ _) | (with_reducible refine Kd.C_drewN ?_ _) | (with_reducible refine Kd.C_drew ?_))); (case side2 => exact (Kd.R_reads' HO_3.out).2.1); rintro e w23 ⟨rfl, hb⟩; refine ⟨_, rfl, ?_⟩; have n0_ := Aside0.mk (Kd.R_below (by (with_reducible repeat (first | apply Kd.R_alloc | apply Kd.R_drewN | apply Kd.R_drew)); exact HO_3.out) hb); have n1_ := Aside0.mk (below_step (by repeat (first | (with_reducible first | exact HB.out | apply below_alloc | apply pw_below_drewN | apply below_drew1) | exact HB.out)) hb); clear HO_3; clear HB; have HO_3 := n0_; have HB := n1_; clear n0_ n1_; (try clear hb); (try clear hb2); (try clear hk); (try clear hi)) | ((with_reducible refine gate_callee (f := 23) rfl ?_); refine goesL_ (some 52) rfl rfl Try.func23 (by kernel_rfl) rfl #[.slice Ao8 t297.length co8] rfl (by (try simp only [List.map_toArray, List.map_cons, List.map_nil]); first | done | rfl | (simp only [List.length_drop, List.length_take]; rfl)) ?_; (with_reducible refine (laws_total.calls kj5 _ _ t297 t306 _ ?side1 ?side2 A16.out).mono ?_); (case side1 => repeat (first | exact (Kd.R_reads' HO_3.out).2.2 | (with_reducible refine Kd.C_alloc ?_ _) | (with_reducible refine Kd.C_drewN ?_ _) | (with_reducible refine Kd.C_drew ?_))); (case side2 => exact (Kd.R_reads' HO_3.out).2.1); rintro e w' ⟨rfl, ⟨nd, rfl⟩⟩; refine ⟨_, rfl, ?_⟩))
            go_ret
            exact ⟨by first | rfl | (simp [errW_none, errW_some] <;> rfl) | (simp [*, errW_none, errW_some] <;> rfl) | (exfalso; simp_all; done), by repeat (first | (with_reducible first | exact HB.out | apply below_alloc | apply pw_below_drewN | apply below_drew1) | exact HB.out)⟩

/-- THE ONE PURE STATEMENT of laws_FnPartRound: yours. -/
def laws_FnPartRound.Pure : Prop := ∀ (l0 : List Int), l0.length ≤ maxLen → l0.length * 1 ≤ 140737488351232 → (∀ x ∈ l0, (Lit.int .u8 x).wf = true) → ∃ k, laws_FnPartRound.f k l0 = some true
theorem laws_FnPartRound.walk (P : laws_FnPartRound.Pure) (a0 : Option Addr) (len0 cap0 : Nat) (z0 : List Int) (w : World) (w0 : (a0 = none ∧ len0 = 0 ∧ cap0 = 0 ∧ z0 = []) ∨ ∃ x, a0 = some x ∧ len0 ≤ cap0 ∧ cap0 ≤ maxLen ∧ z0.length = cap0 ∧ (∀ i, i < z0.length → w.cell? (x.add i) = some (.int .u8 (z0.getD i 0))) ∧ ∀ n ∈ z0, (Lit.int .u8 n).wf = true) (y0 : len0 * 1 ≤ 140737488351232) :
    Calls Try.prog 7 #[.slice a0 len0 cap0] w fun e w' => e = .returned (.bool true) ∧ Below w.heap.size w w' := by
  obtain ⟨l0, rfl, hr0, hm0, hw0, hc0⟩ := ReadsInt.ofRowC w0
  obtain ⟨k, h⟩ := P l0 hm0 y0 hw0
  refine (laws_FnPartRound.calls k _ _ l0 true w (Kd.C_of_reads (d := (0 : Int)) (h1 := fun _ => rfl) hr0) hc0 h).mono ?_
  rintro e w' ⟨rfl, hd⟩
  exact ⟨rfl, hd⟩

end Go.Proofs.Ythdbcgclomfciaa.PFnPartRound
