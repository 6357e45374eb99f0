/- Written by a program of this claim out of the translation: plain Lean functions and their contracts; what is proved: each Go function of this text comes to what its Lean function says. -/
import Derived.Test.YtcmpkabpmmmhoaaGreatDoorPFnExecuteEndsx0
import Derived.Test.YtcmpkabpmmmhoaaGreatDoorPFnExecuteEndsx1
namespace Go.Proofs.YtcmpkabpmmmhoaaGreatDoor.PFnExecuteEnds
open Go.RowKit Go.Proofs.YtcmpkabpmmmhoaaGreatDoorW.PrintWords Go.Proofs.YtcmpkabpmmmhoaaGreatDoorW.PrintLast Go.Proofs.YtcmpkabpmmmhoaaGreatDoorW.PrintMore
attribute [local go_sem] max2_int min2_int max_two min_two max_three min_three max_four min_four   -- for this text's walks alone
set_option linter.unusedVariables false
set_option linter.unusedSimpArgs false

/-! ### impl_foldings: function 36, by hand -/
def impl_foldings.l1 : Nat → List Int → Int → List Int → Int → Int → Int → Int → Option (List Int × Int × Int × Int)
  | 0, _, _, _, _, _, _, _ => none
  | k + 1, l, m, t, p, lo, hi, i => if i < (l.length : Int) then (if 0 ≤ i then (if 0 ≤ wrap64 (wrap64 ((l.length : Int) - 1) - i) then (if t.length < 1000 then
      (if Go.bits .and .i64 (shr .i64 m (wrap64 (wrap64 ((l.length : Int) - 1) - i))) 1 = 0 then
        impl_foldings.l1 k l m (t ++ [114]) (wrap64 (p + rd l i)) (mn lo (wrap64 (p + rd l i))) (mx hi (wrap64 (p + rd l i))) (wrap64 (i + 1))
      else impl_foldings.l1 k l m (t ++ [108]) (wrap64 (p - rd l i)) (mn lo (wrap64 (p - rd l i))) (mx hi (wrap64 (p - rd l i))) (wrap64 (i + 1)))
      else none) else none) else none) else some (t, p, lo, hi)
def impl_foldings.l0 {S : Type} (step : S → ByteArray → Int → Int → Option S) : Nat → List Int → Int → S → Int → Option S
  | 0, _, _, _, _ => none
  | k + 1, l, n, s, m => if m < n then ((impl_foldings.l1 k l m [] 0 0 0 0).bind fun r => (step s (strOfNums r.1) r.2.1 (wrap64 (r.2.2.2 - r.2.2.1))).bind fun s' => impl_foldings.l0 step k l n s' (wrap64 (m + 1))) else some s
def impl_foldings.f {S : Type} (step : S → ByteArray → Int → Int → Option S) (k : Nat) (l : List Int) (s : S) : Option S := impl_foldings.l0 step k l (shl .i64 1 (l.length : Int)) s 0
theorem impl_foldings.mono1 : ∀ k, (∀ y0 y1 y2 y3 y4 y5 y6, LeO (impl_foldings.l1 k y0 y1 y2 y3 y4 y5 y6) (impl_foldings.l1 (k + 1) y0 y1 y2 y3 y4 y5 y6))
  | 0 => fun _ _ _ _ _ _ _ r h => by simp [impl_foldings.l1] at h
  | k + 1 => by
    have ih0 := impl_foldings.mono1 k
    intro y0 y1 y2 y3 y4 y5 y6
    unfold impl_foldings.l1
    repeat' first
      | (with_reducible exact ih0 _ _ _ _ _ _ _)
      | (with_reducible exact LeO.refl _)
      | (with_reducible exact LeO.none _)
      | (with_reducible refine LeO.ite ?_ ?_)
theorem impl_foldings.mono0 {S : Type} (step : S → ByteArray → Int → Int → Option S) : ∀ k, (∀ y0 y1 y2 y3, LeO (impl_foldings.l0 step k y0 y1 y2 y3) (impl_foldings.l0 step (k + 1) y0 y1 y2 y3))
  | 0 => fun _ _ _ _ r h => by simp [impl_foldings.l0] at h
  | k + 1 => by
    have ih0 := impl_foldings.mono0 step k
    have ih1 := impl_foldings.mono1 k
    intro y0 y1 y2 y3
    unfold impl_foldings.l0
    repeat' first
      | (with_reducible exact ih0 _ _ _ _)
      | (with_reducible exact ih1 _ _ _ _ _ _ _)
      | (with_reducible exact LeO.refl _)
      | (with_reducible exact LeO.none _)
      | (with_reducible refine LeO.ite ?_ ?_)
      | (with_reducible refine LeO.bind ?_ (fun _ => ?_))
theorem impl_foldings.mono {S : Type} (step : S → ByteArray → Int → Int → Option S) (l : List Int) (s : S) (k : Nat) : LeO (impl_foldings.f step k l s) (impl_foldings.f step (k + 1) l s) := impl_foldings.mono0 step k _ _ _ _
set_option maxHeartbeats 8000000 in
set_option maxRecDepth 100000 in
/-- All foldings, told one behind the other to a function value: a state is kept by what the function value does ('htell'), and by whatever the walk itself makes ('hmove'). -/
theorem impl_foldings.calls {S : Type} (step : S → ByteArray → Int → Int → Option S) (K : Nat) (fn : Func) (hK : Tryz.prog.funcs[K]? = some fn) (hKn : (fn.name == "runtime.NumGoroutine") = false) (hKb : fn.body.isSome = true) (caps : Array Value) (B0 : Nat) (R : S → World → Prop)
    (k : Nat) (A0 : Option Addr) (c0 : Nat) (l0 : List Int) (s0 s1 : S) (w : World)
    (hmove : ∀ s w1 w2, R s w1 → w.heap.size ≤ w1.heap.size → Below w1.heap.size w1 w2 → R s w2)
    (htell : ∀ s s' t p q w1, R s w1 → step s t p q = some s' → Calls Tryz.prog K (#[.string t, .int .i64 p, .int .i64 q] ++ caps) w1 fun e w2 => e = .returned (.tuple #[]) ∧ R s' w2 ∧ Below B0 w1 w2)
    (hB0 : B0 ≤ w.heap.size) (hr0 : ∀ w', Below B0 w w' → Kd.C (Kd.int .i64) w' A0 l0.length l0) (hc0 : l0.length ≤ c0) (hs : R s0 w) (h : impl_foldings.f step k l0 s0 = some s1) :
    Calls Tryz.prog 36 #[.slice A0 l0.length c0, .func (.func K) #[] caps] w fun e w' => e = .returned (.tuple #[]) ∧ R s1 w' ∧ Below B0 w w' := by
  have HR0 := Aside0.mk hr0
  have HC0 := Aside0.mk hc0
  have HM := Aside0.mk hmove
  have HT := Aside0.mk htell
  have HS := Aside0.mk hs
  have HB0 := Aside0.mk hB0
  have HKn := Aside0.mk (And.intro hK (And.intro hKn hKb))
  clear hr0 hc0 hmove htell hs hB0 hK hKn hKb
  obtain ⟨n, hn⟩ : ∃ j_ : Int, (shl .i64 1 (l0.length : Int)) = j_ := ⟨_, rfl⟩
  have H : impl_foldings.l0 step k l0 n s0 0 = some s1 := by rw [← hn]; exact h
  clear h
  have hji2 := hn
  have hji2_ : (IntKind.i64.wrap (1 * 2 ^ min (l0.length : Int).toNat 64)) = n := hji2
  have hji2z : (l0.length : Int) ≤ 64 → (IntKind.i64.wrap (1 * 2 ^ (l0.length : Int).toNat)) = n := shl_small hji2
  have hji2p : (IntKind.i64.wrap (1 * 2 ^ min l0.length 64)) = n := hji2_
  have hji2q : (l0.length : Int) ≤ 64 → (IntKind.i64.wrap (1 * 2 ^ l0.length)) = n := hji2z
  have hji2r : (IntKind.i64.wrap (2 ^ min l0.length 64)) = n := by have h_ := hji2p; rw [Int.one_mul] at h_; exact h_
  have hji2s : (l0.length : Int) ≤ 64 → (IntKind.i64.wrap (2 ^ l0.length)) = n := fun hle_ => by have h_ := hji2q hle_; rw [Int.one_mul] at h_; exact h_
  have H' := Aside0.mk H
  clear H
  go_enter Tryz.func36, Tryz.ntmps36
  go_wp2
  go_loopg [14] k (fun kq v14 w' => ∃ (s : S) (x14 : Int), v14 = .int .i64 x14 ∧ Aside0 (impl_foldings.l0 step kq l0 n s x14 = some s1) ∧ Aside0 (kq ≤ k) ∧ Aside0 (R s w') ∧ Aside0 (Below B0 w w'))
  case atStart => exact ⟨s0, 0, (by first | rfl | (simp; done) | (simp [*]; done)), H', ⟨Nat.le_refl _⟩, HS, ⟨Below.refl _ _⟩⟩
  case round =>
    clear H' HS
    obtain ⟨s, x14, rfl, HA, HK1, HS, HB⟩ := hrel
    obtain ⟨wo, rfl⟩ : ∃ x : World, x = wr := ⟨wr, rfl⟩
    cases gk with
    | zero => exact absurd HA.out (by simp [impl_foldings.l0])
    | succ k1 =>
      have H := HA.out
      clear HA
      simp only [impl_foldings.l0] at H
      by_cases c3 : x14 < n
      · rw [if_pos c3] at H
        have c3b0 : decide (x14 < n) = true := decide_eq_true c3
        clear c3
        obtain ⟨⟨rt, rp, rlo, rhi⟩, h1, H⟩ := Option.bind_eq_some_iff.mp H
        obtain ⟨s', h2, H⟩ := Option.bind_eq_some_iff.mp H
        have HT' := Aside0.mk (HT.out s s' _ _ _ · · h2)
        have H2 := Aside0.mk h2
        have H' := Aside0.mk H
        have H1 := Aside0.mk h1
        clear H h1 h2
        obtain ⟨et, het⟩ : ∃ y_ : List Int, y_ = [] := ⟨_, rfl⟩
        have Net := Aside0.mk het
        clear het
        have HZ := Aside0.mk (show w.heap.size ≤ wo.heap.size from HB.out.size)
        have HB1 := Aside0.mk (Below.refl wo.heap.size wo)
        go_wp2_with (first | ((with_reducible refine gate_dst (N := 17) rfl ?_); refine Kd.R_lit (Kd.int .u8) _ 5 ?hg (N := 17) ?hd (xs := ([] : List Int)) (inner := []) (ok := fun _ => True) (okp := fun _ => True) ?hr ?hp (fun _ hk => hk) trivial (Below.refl _ _) (Nat.le_refl _) (by simp) ?_; (case hd => rfl); (case hg => rfl); (case hr => first | (go_simp; done) | (go_simp; rfl)); (case hp => exact (Reps.none _ _)); intro v158 w6 ho7 hb hg_ hnew_; clear hg_ hnew_; rw [← Net.out] at ho7; have n0_ := Aside0.mk (Kd.R_lower ho7 (Nat.le_trans (Nat.le_refl _) (Below.size (by repeat (first | (with_reducible first | exact HB1.out | apply below_alloc | apply pw_below_drewN | apply below_drew1) | exact HB1.out))))); have n1_ := Aside0.mk (below_then (by repeat (first | (with_reducible first | exact HB1.out | apply below_alloc | apply pw_below_drewN | apply below_drew1) | exact HB1.out)) (Nat.le_trans (Nat.le_refl _) (Below.size (by repeat (first | (with_reducible first | exact HB1.out | apply below_alloc | apply pw_below_drewN | apply below_drew1) | exact HB1.out)))) hb); clear HB1; have HO := n0_; have HB1 := n1_; clear n0_ n1_; clear hb ho7))
        go_loopg [5, 6, 7, 8, 20] k1 (fun kq v5 v6 v7 v8 v20 w' => ∃ (t : List Int) (p lo hi i : Int), v6 = .int .i64 p ∧ v7 = .int .i64 lo ∧ v8 = .int .i64 hi ∧ v20 = .int .i64 i ∧ Aside0 (impl_foldings.l1 kq l0 x14 t p lo hi i = some (rt, rp, rlo, rhi)) ∧ Aside0 (kq ≤ k1) ∧ Aside0 (Kd.R (Kd.int .u8) 5 w' wo.heap.size (fun _ => True) v5 t) ∧ Aside0 (Below wo.heap.size wo w'))
        case atStart => exact ⟨et, 0, 0, 0, 0, (by first | rfl | (simp; done) | (simp [*]; done)), (by first | rfl | (simp; done) | (simp [*]; done)), (by first | rfl | (simp; done) | (simp [*]; done)), (by first | rfl | (simp; done) | (simp [*]; done)), ⟨by rw [Net.out]; exact H1.out⟩, ⟨Nat.le_refl _⟩, ⟨by (with_reducible repeat (first | apply Kd.R_alloc | apply Kd.R_drewN | apply Kd.R_drew)); exact HO.out⟩, ⟨(by repeat (first | (with_reducible first | exact HB1.out | apply below_alloc | apply pw_below_drewN | apply below_drew1) | exact HB1.out))⟩⟩
        case round =>
          clear H1 HB1 HO
          try clear c3b0
          obtain ⟨t, p, lo, hi, i, rfl, rfl, rfl, rfl, HA, HK2, HO, HB1⟩ := hrel
          cases gk with
          | zero => exact absurd HA.out (by simp [impl_foldings.l1])
          | succ k2 =>
            have H := HA.out
            clear HA
            simp only [impl_foldings.l1] at H
            by_cases c4 : i < (l0.length : Int)
            · rw [if_pos c4] at H
              have c4b0 : decide (i < (l0.length : Int)) = true := decide_eq_true c4
              clear c4
              by_cases c5 : 0 ≤ i
              · rw [if_pos c5] at H
                have c5b0 : decide (0 ≤ i) = true := decide_eq_true c5
                clear c5
                obtain ⟨js, hjs⟩ : ∃ j_ : Int, (wrap64 ((wrap64 ((l0.length : Int) - 1)) - i)) = j_ := ⟨_, rfl⟩
                rw [hjs] at H
                have hjsw : (IntKind.i64.wrap ((wrap64 ((l0.length : Int) - 1)) - i)) = js := (i64_w _).trans hjs
                by_cases c6 : 0 ≤ js
                · rw [if_pos c6] at H
                  have c6b0 := eq_true c6
                  have c6b1 : decide (0 ≤ js) = true := decide_eq_true c6
                  clear c6
                  by_cases c7 : t.length < 1000
                  · rw [if_pos c7] at H
                    have LMc := Aside0.mk c7
                    clear c7
                    obtain ⟨jb, hjb⟩ : ∃ j_ : Int, (shr .i64 x14 js) = j_ := ⟨_, rfl⟩
                    rw [hjb] at H
                    have hjb_ : (x14 / 2 ^ min (js).toNat 64) = jb := hjb
                    have hjbz : js ≤ 64 → (x14 / 2 ^ js.toNat) = jb := shr_small hjb
                    have p149 : 0 ≤ (i : Int) := of_decide_eq_true (by first | (with_reducible assumption) | assumption)
                    have q149 : i < (l0.length : Int) := of_decide_eq_true (by first | (with_reducible assumption) | assumption)
                    obtain ⟨ad149, e149, hx149_0⟩ := Kd.at_int (HR0.out _ (HB.out.trans (Below.mono HB1.out (Nat.le_trans HB0.out HZ.out)))) i p149 q149
                    cases e149
                    have hlt := World.block_lt_of_cell? _ _ hx149_0
                    replace p149 := eq_true p149
                    replace q149 := eq_true q149
                    by_cases cb : Go.bits .and .i64 (jb) 1 = 0
                    · rw [if_pos cb] at H
                      have cbb : (Go.bits .and .i64 (jb) 1 == 0) = true := beq_iff_eq.mpr cb
                      clear cb
                      obtain ⟨jp, hjp⟩ : ∃ j_ : Int, wrap64 (p + rd l0 i) = j_ := ⟨_, rfl⟩
                      rw [hjp] at H
                      obtain ⟨jlo, hjlo⟩ : ∃ j_ : Int, (mn lo jp) = j_ := ⟨_, rfl⟩
                      rw [hjlo] at H
                      have hjlo_ : (if jp < lo then jp else lo) = jlo := hjlo
                      obtain ⟨jhi, hjhi⟩ : ∃ j_ : Int, (mx hi jp) = j_ := ⟨_, rfl⟩
                      rw [hjhi] at H
                      have hjhi_ : (if hi < jp then jp else hi) = jhi := hjhi
                      have hjpw : (IntKind.i64.wrap (p + rd l0 i)) = jp := (i64_w _).trans hjp
                      obtain ⟨t1, ht1⟩ : ∃ y_ : List Int, y_ = t ++ [114] := ⟨_, rfl⟩
                      rw [← ht1] at H
                      have Nt := Aside0.mk ht1
                      clear ht1
                      have H' := Aside0.mk H
                      clear H
                      go_wp2_with (first | ((with_reducible refine gate_builtin (b := .append) (xs := #[.tmp 37, .tmp 38]) rfl ?_); at_builtin; refine Kd.R_append (Kd.int .u8) (w0 := wo) wo.heap.size rfl (.tmp 37) (.tmp 38) 22 5 (.int .u8 0) 1 rfl Tryz.underlying22 info5 rfl (by decide) (by omega) u5 t 114 [.int .u8 114] (fun _ => True) (fun _ => False) rfl rfl ?aP (fun _ hk => hk.elim) ?aF ?aO ?aB ?aS ?aL ?_; (case aP => exact rfl); (case aB => exact (by repeat (first | (with_reducible first | exact HB1.out | apply below_alloc | apply pw_below_drewN | apply below_drew1) | exact HB1.out))); (case aF => exact (fun _ _ => trivial)); (case aO => exact (by (with_reducible repeat (first | apply Kd.R_alloc | apply Kd.R_drewN | apply Kd.R_drew)); exact HO.out)); (case aS => exact (Nat.le_trans (Nat.le_refl _) (Below.size (by repeat (first | (with_reducible first | exact HB1.out | apply below_alloc | apply pw_below_drewN | apply below_drew1) | exact HB1.out))))); (case aL => have := LMc.out; omega); intro v161 w16 ho hb hg hat; rw [← Nt.out] at ho; have n0_ := Aside0.mk (hb); have n1_ := Aside0.mk (ho); clear HB1; clear HO; have HB1 := n0_; have HO := n1_; clear n0_ n1_; clear ho hb hg hat))
                      go_roundg k2
                      case measure => have := HK2.out; omega
                      case rel => exact ⟨t1, jp, jlo, jhi, wrap64 (i + 1), (by first | rfl | (simp; done) | (simp [*]; done)), (by first | rfl | (simp; done) | (simp only [← hjlo] <;> (first | rfl | simp)) | (simp [*]; done)), (by first | rfl | (simp; done) | (simp only [← hjhi] <;> (first | rfl | simp)) | (simp [*]; done)), (by first | rfl | (simp; done) | (simp [*]; done)), H', ⟨by have := HK2.out; omega⟩, HO, ⟨(by repeat (first | (with_reducible first | exact HB1.out | apply below_alloc | apply pw_below_drewN | apply below_drew1) | exact HB1.out))⟩⟩
                    · rw [if_neg cb] at H
                      have cbb : (Go.bits .and .i64 (jb) 1 == 0) = false := beq_eq_false_iff_ne.mpr cb
                      clear cb
                      obtain ⟨jp, hjp⟩ : ∃ j_ : Int, wrap64 (p - rd l0 i) = j_ := ⟨_, rfl⟩
                      rw [hjp] at H
                      obtain ⟨jlo, hjlo⟩ : ∃ j_ : Int, (mn lo jp) = j_ := ⟨_, rfl⟩
                      rw [hjlo] at H
                      have hjlo_ : (if jp < lo then jp else lo) = jlo := hjlo
                      obtain ⟨jhi, hjhi⟩ : ∃ j_ : Int, (mx hi jp) = j_ := ⟨_, rfl⟩
                      rw [hjhi] at H
                      have hjhi_ : (if hi < jp then jp else hi) = jhi := hjhi
                      have hjpw : (IntKind.i64.wrap (p - rd l0 i)) = jp := (i64_w _).trans hjp
                      obtain ⟨t1, ht1⟩ : ∃ y_ : List Int, y_ = t ++ [108] := ⟨_, rfl⟩
                      rw [← ht1] at H
                      have Nt := Aside0.mk ht1
                      clear ht1
                      have H' := Aside0.mk H
                      clear H
                      go_wp2_with (first | ((with_reducible refine gate_builtin (b := .append) (xs := #[.tmp 43, .tmp 44]) rfl ?_); at_builtin; refine Kd.R_append (Kd.int .u8) (w0 := wo) wo.heap.size rfl (.tmp 43) (.tmp 44) 22 5 (.int .u8 0) 1 rfl Tryz.underlying22 info5 rfl (by decide) (by omega) u5 t 108 [.int .u8 108] (fun _ => True) (fun _ => False) rfl rfl ?aP (fun _ hk => hk.elim) ?aF ?aO ?aB ?aS ?aL ?_; (case aP => exact rfl); (case aB => exact (by repeat (first | (with_reducible first | exact HB1.out | apply below_alloc | apply pw_below_drewN | apply below_drew1) | exact HB1.out))); (case aF => exact (fun _ _ => trivial)); (case aO => exact (by (with_reducible repeat (first | apply Kd.R_alloc | apply Kd.R_drewN | apply Kd.R_drew)); exact HO.out)); (case aS => exact (Nat.le_trans (Nat.le_refl _) (Below.size (by repeat (first | (with_reducible first | exact HB1.out | apply below_alloc | apply pw_below_drewN | apply below_drew1) | exact HB1.out))))); (case aL => have := LMc.out; omega); intro v161 w16 ho hb hg hat; rw [← Nt.out] at ho; have n0_ := Aside0.mk (hb); have n1_ := Aside0.mk (ho); clear HB1; clear HO; have HB1 := n0_; have HO := n1_; clear n0_ n1_; clear ho hb hg hat))
                      go_roundg k2
                      case measure => have := HK2.out; omega
                      case rel => exact ⟨t1, jp, jlo, jhi, wrap64 (i + 1), (by first | rfl | (simp; done) | (simp [*]; done)), (by first | rfl | (simp; done) | (simp only [← hjlo] <;> (first | rfl | simp)) | (simp [*]; done)), (by first | rfl | (simp; done) | (simp only [← hjhi] <;> (first | rfl | simp)) | (simp [*]; done)), (by first | rfl | (simp; done) | (simp [*]; done)), H', ⟨by have := HK2.out; omega⟩, HO, ⟨(by repeat (first | (with_reducible first | exact HB1.out | apply below_alloc | apply pw_below_drewN | apply below_drew1) | exact HB1.out))⟩⟩
                  · rw [if_neg c7] at H
                    exact absurd H (by simp)
                · rw [if_neg c6] at H
                  exact absurd H (by simp)
              · rw [if_neg c5] at H
                exact absurd H (by simp)
            · rw [if_neg c4] at H
              have c4b0 : decide (i < (l0.length : Int)) = false := decide_eq_false c4
              clear c4
              simp only [Option.some.injEq, Prod.mk.injEq] at H
              obtain ⟨rfl, rfl, rfl, rfl⟩ := H
              have hcv17 := own_string (P := Tryz.prog) Tryz.underlying22 Tryz.underlying5 Tryz.underlying9 (Kd.own_of_R HO.out)
              go_wp2_with fail
              rw [enters_ HKn.out.1 HKn.out.2.1 HKn.out.2.2, Oper.upon_enter]
              refine (HT'.out wr (HM.out _ _ _ HS.out HZ.out HB1.out)).mono ?_
              rintro e w2 ⟨rfl, hs2, hb2⟩
              have HS2 := Aside0.mk hs2
              have HB2 := Aside0.mk (HB.out.trans ((Below.mono HB1.out (Nat.le_trans HB0.out HZ.out)).trans hb2))
              clear hs2 hb2 HB1 HO HS HB
              go_wp2
              go_roundg k1
              case measure => have := HK1.out; omega
              case rel => exact ⟨s', wrap64 (x14 + 1), (by first | rfl | (simp; done) | (simp [*]; done)), H', ⟨by have := HK1.out; omega⟩, HS2, HB2⟩
      · rw [if_neg c3] at H
        have c3b0 : decide (x14 < n) = false := decide_eq_false c3
        clear c3
        obtain rfl := Option.some.inj H
        go_wp2
        go_end0
        exact ⟨rfl, HS.out, HB.out⟩

-- NOT PRINTED: function 37 (impl_FoldEnds_1)

/-! ### slices_Sort_int_int: function 38, from the shelf: a list of the call's own is put in order -/
theorem slices_Sort_int_int.calls (g cap base : Nat) (s : List Int) (w : World) (h : Kd.R (Kd.int .i64) 3 w base (fun _ => True) (.slice (some ⟨g, 0, none⟩) s.length cap) s) (h2 : s.length < 2000) :
    Calls Tryz.prog 38 #[.slice (some ⟨g, 0, none⟩) s.length cap] w fun e w' => e = .returned (.tuple #[]) ∧ Kd.R (Kd.int .i64) 3 w' base (fun _ => True) (.slice (some ⟨g, 0, none⟩) s.length cap) (s.mergeSort (fun x y => decide (x ≤ y))) ∧ w.grownBy w' (some g) := by
  rcases (Kd.own_of_R h).2 with ⟨q0, _⟩ | ⟨g1, cap1, cur, q1, q2, q3, q4, q5, q6, q7⟩
  · cases q0
  cases q1
  have hsl : (s.mergeSort (fun x y => decide (x ≤ y))).length = s.length := List.length_mergeSort _
  have hH : Go.Sort.Holds (Value.int .i64) w g 0 s.toArray := holds_of_blockI q3 (by rw [Nat.mul_one] at q7; exact q7)
  refine (Go.Proofs.YtcmpkabpmmmhoaaGreatDoor.Shelf.Tryz.slices_Sort_int g 0 cap s w hH (blk_lt q3) (by omega)).mono ?_
  rintro e w3 ⟨rfl, n, os, rfl⟩
  exact ⟨rfl, Kd.R_of_own (by rw [hsl]; exact ownsRow_sortedI hsl q2 q3 q4 q5 q6) (fun _ _ => trivial), grownBy_sortedI _⟩

/-! ### slices_Clip_int_int: function 39, by hand -/
set_option maxRecDepth 100000 in
theorem slices_Clip_int_int.calls (A : Option Addr) (n c : Nat) (w : World) (h : n ≤ c) (hn : n < 2000) :
    Calls Tryz.prog 39 #[.slice A n c] w fun e w' => e = .returned (.slice A n n) ∧ w' = w := by
  have hu := Tryz.underlying23
  have h1 : (0 : Int) ≤ (n : Int) := by omega
  have h2 : (n : Int) ≤ (c : Int) := by omega
  have h3 : (n : Int) ≤ (n : Int) := by omega
  go_enter Tryz.func39, Tryz.ntmps39
  go_wp2
  go_ret
  exact ⟨rfl, rfl⟩

/-! ### slices_Compact_int_int: function 40, from the shelf: what is there twice is struck -/
theorem slices_Compact_int_int.calls (g cap base : Nat) (s : List Int) (w : World) (h : Kd.R (Kd.int .i64) 3 w base (fun _ => True) (.slice (some ⟨g, 0, none⟩) s.length cap) s) (h2 : s.length < 2000) :
    Calls Tryz.prog 40 #[.slice (some ⟨g, 0, none⟩) s.length cap] w fun e w' => e = .returned (.slice (some ⟨g, 0, none⟩) (Lib.compact s).length cap) ∧ Kd.R (Kd.int .i64) 3 w' base (fun _ => True) (.slice (some ⟨g, 0, none⟩) (Lib.compact s).length cap) (Lib.compact s) ∧ w.grownBy w' (some g) := by
  rcases (Kd.own_of_R h).2 with ⟨q0, _⟩ | ⟨g1, cap1, cur, q1, q2, q3, q4, q5, q6, q7⟩
  · cases q0
  cases q1
  have hle := Lib.compact_length_le s
  have hH : Go.Sort.Holds (Value.int .i64) w g 0 s.toArray := holds_of_blockI q3 (by rw [Nat.mul_one] at q7; exact q7)
  refine (Go.Proofs.YtcmpkabpmmmhoaaGreatDoor.Shelf.Tryz.slices_Compact_int g 0 cap s w hH (by omega) q4).mono ?_
  rintro e w3 ⟨rfl, n, rfl⟩
  have e0 : ∀ W : World, Go.Sort.grow W #[] = W := fun W => by simp [Go.Sort.grow]
  have hh := heap_sortedI (w := w) (g := g) (n := n) (os := #[]) (Lib.compact s ++ List.replicate (s.length - (Lib.compact s).length) 0).toArray q3
  have hgr := grownBy_sortedI (w := w) (g := g) (n := n) (os := #[]) (Lib.compact s ++ List.replicate (s.length - (Lib.compact s).length) 0).toArray
  rw [e0] at hh hgr
  have hlen : (Lib.compact s ++ List.replicate (s.length - (Lib.compact s).length) 0).length = s.length := by
    rw [List.length_append, List.length_replicate]
    omega
  have ht := take_putCellsI cur (Lib.compact s ++ List.replicate (s.length - (Lib.compact s).length) 0) (by rw [hlen]; omega)
  refine ⟨rfl, Kd.R_of_own ⟨by simp [encs], .inr ⟨g, cap, _, rfl, q2, hh, by omega, q5, by simp [Go.Sort.putCells, q6], ?_⟩⟩ (fun _ _ => trivial), hgr⟩
  rw [Nat.mul_one]
  have h3 := congrArg (List.take (Lib.compact s).length) ht
  have e2 : List.take (Lib.compact s).length (List.map (Value.int .i64) (Lib.compact s)) = List.map (Value.int .i64) (Lib.compact s) := List.take_of_length_le (by simp)
  rw [List.take_take, hlen, Nat.min_eq_left hle, List.map_append, List.take_append_of_le_length (by simp), e2] at h3
  exact h3

/-! ### impl_FoldEnds: function 13, by hand -/
def impl_FoldEnds.step (s : List Int) (_t : ByteArray) (p _q : Int) : Option (List Int) := if 0 ≤ p then (if s.length < 1000 then some (s ++ [p]) else none) else some s
def impl_FoldEnds.f (k : Nat) (l : List Int) : Option (List Int × Bool) :=
  (impl_isRuler.f k l).bind fun t => if t = true then ((impl_foldings.f impl_FoldEnds.step k l []).bind fun s => if 0 < s.length ∧ s.length < 2000 then some (Lib.compact (s.mergeSort (fun x y => decide (x ≤ y))), true) else none) else some ([], false)
theorem impl_FoldEnds.mono : ∀ a0 k, LeO (impl_FoldEnds.f k a0) (impl_FoldEnds.f (k + 1) a0) := by
  intro a0 k
  unfold impl_FoldEnds.f
  exact LeO.bind (impl_isRuler.mono _ _) (fun _ => LeO.ite (LeO.bind (impl_foldings.mono _ _ _ _) (fun _ => LeO.refl _)) (LeO.refl _))
/-- What holds between the calls of the function that is told: the list's own cell and its row. -/
def impl_FoldEnds.R (gf : Nat) (w0 : World) (s : List Int) (w1 : World) : Prop := Below w0.heap.size w0 w1 ∧ ∃ A c, w1.heap[gf]? = some (.cells #[.slice A s.length c] 23 (0, 0)) ∧ Kd.R (Kd.int .i64) 3 w1 w0.heap.size (fun _ => True) (.slice A s.length c) s
theorem impl_FoldEnds.moves {gf : Nat} {w0 w1 w2 : World} {s : List Int} (h : impl_FoldEnds.R gf w0 s w1) (hb : Below w1.heap.size w1 w2) : impl_FoldEnds.R gf w0 s w2 := by
  obtain ⟨h1, A, c, h2, h3⟩ := h
  exact ⟨below_step h1 hb, A, c, blk_below h2 hb, Kd.R_below h3 hb⟩
set_option maxHeartbeats 4000000 in
set_option maxRecDepth 100000 in
theorem impl_FoldEnds.tell (gf : Nat) (w0 : World) (s s' : List Int) (t : ByteArray) (p q : Int) (w1 : World) (hg : w0.heap.size ≤ gf) (hR : impl_FoldEnds.R gf w0 s w1) (h : impl_FoldEnds.step s t p q = some s') :
    Calls Tryz.prog 37 #[.string t, .int .i64 p, .int .i64 q, .pointer (some ⟨gf, 0, none⟩)] w1 fun e w2 => e = .returned (.tuple #[]) ∧ impl_FoldEnds.R gf w0 s' w2 ∧ Below w0.heap.size w1 w2 := by
  have HRR := Aside0.mk hR
  obtain ⟨hR1, A, c, hR2, hR3⟩ := hR
  have HR1 := Aside0.mk hR1
  have HR2 := Aside0.mk hR2
  have HR3 := Aside0.mk hR3
  have HG := Aside0.mk hg
  have c0_ : _ = some _ := blk_cell hR2 0
  have f0_ := blk_frozen hR2 0
  clear hR1 hR2 hR3 hg
  unfold impl_FoldEnds.step at h
  by_cases hp : 0 ≤ p
  · rw [if_pos hp] at h
    have hpb : decide (0 ≤ p) = true := decide_eq_true hp
    have hpe := eq_true hp
    clear hp
    by_cases hl : s.length < 1000
    · rw [if_pos hl] at h
      obtain rfl := Option.some.inj h
      have HL := Aside0.mk hl
      obtain ⟨u, hu⟩ : ∃ y_ : List Int, y_ = s ++ [p] := ⟨_, rfl⟩
      rw [← hu]
      have NU := Aside0.mk hu
      clear h hl hu
      go_enter Tryz.func37, Tryz.ntmps37
      go_wp2_with (first
        | ((with_reducible refine gate_builtin (b := .append) (xs := #[.tmp 9, .tmp 11]) rfl ?_); at_builtin; refine Kd.R_append (Kd.int .i64) (w0 := w0) w0.heap.size rfl (.tmp 9) (.tmp 11) 23 3 (.int .i64 0) 8 rfl Tryz.underlying23 info3 rfl (by decide) (by omega) (.slice A s.length c) s p [.int .i64 p] (fun _ => True) (fun _ => False) rfl rfl ?aP (fun _ hk => hk.elim) ?aF ?aO ?aB ?aS ?aL ?_; (case aP => exact rfl); (case aB => exact (by repeat (first | (with_reducible first | exact HR1.out | apply below_alloc | apply pw_below_drewN | apply below_drew1) | exact HR1.out))); (case aF => exact (fun _ _ => trivial)); (case aO => exact (by (with_reducible repeat (first | apply Kd.R_alloc | apply Kd.R_drewN | apply Kd.R_drew)); exact HR3.out)); (case aS => exact (Below.size (by repeat (first | (with_reducible first | exact HR1.out | apply below_alloc | apply pw_below_drewN | apply below_drew1) | exact HR1.out)))); (case aL => have := HL.out; omega); intro v161 w16 ho hb hg hat; rw [← NU.out] at ho; obtain ⟨A1, c1, rfl⟩ := Kd.R_slice ho; have hk := blk_grown HR2.out hg (Kd.R_ne HR3.out HR2.out (by decide)); have HK := Aside0.mk hk; have ck : _ = some _ := blk_cell hk 0; have fk := blk_frozen hk 0; have HO := Aside0.mk ho; have HB := Aside0.mk hb; have HB2 := Aside0.mk (pw_below_grown (Below.refl w0.heap.size w1) _ HR1.out.size hg (Kd.R_base HR3.out)); clear hk ho hb hg hat))
      go_end0
      exact ⟨rfl, ⟨below_set HB.out HG.out, A1, c1, blk_put HK.out 0 _ rfl, Kd.R_set HO.out HK.out (by decide) 0 _⟩, HB2.out.setCell HG.out _⟩
    · rw [if_neg hl] at h
      exact absurd h (by simp)
  · rw [if_neg hp] at h
    have hpb : decide (0 ≤ p) = false := decide_eq_false hp
    obtain rfl := Option.some.inj h
    clear h hp
    go_enter Tryz.func37, Tryz.ntmps37
    go_wp2
    go_end0
    exact ⟨rfl, HRR.out, Below.refl _ _⟩
set_option maxHeartbeats 4000000 in
set_option maxRecDepth 100000 in
theorem impl_FoldEnds.calls (k : Nat) (A0 : Option Addr) (c0 : Nat) (l0 : List Int) (r1 : List Int) (r2 : Bool) (w : World) (hr0 : Kd.C (Kd.int .i64) w A0 l0.length l0) (hc0 : l0.length ≤ c0) (h : impl_FoldEnds.f k l0 = some (r1, r2)) :
    Calls Tryz.prog 13 #[.slice A0 l0.length c0] w fun e w' => ∃ v0_ : Value, e = .returned (.tuple #[v0_, .bool r2]) ∧ Kd.V (Kd.int .i64) 3 w' w.heap.size (fun k_ => (w.heap.size ≤ k_)) v0_ r1 ∧ Below w.heap.size w w' := by
  have HR0 := Aside0.mk hr0
  have HC0 := Aside0.mk hc0
  clear hr0 hc0
  have HB := Aside0.mk (Below.refl w.heap.size w)
  obtain ⟨t, h1, h⟩ := Option.bind_eq_some_iff.mp h
  have A1 := Aside0.mk h1
  clear h1
  by_cases c3 : t = true
  · subst c3
    rw [if_pos rfl] at h
    obtain ⟨s, h3, h⟩ := Option.bind_eq_some_iff.mp h
    by_cases c4 : 0 < s.length ∧ s.length < 2000
    · rw [if_pos c4] at h
      simp only [Option.some.injEq, Prod.mk.injEq] at h
      obtain ⟨rfl, rfl⟩ := h
      obtain ⟨y0, hy0⟩ : ∃ y_ : List Int, y_ = ([] : List Int) := ⟨_, rfl⟩
      rw [← hy0] at h3
      have NY := Aside0.mk hy0
      have A3 := Aside0.mk h3
      have HP := Aside0.mk c4
      have hsl : (s.mergeSort (fun x y => decide (x ≤ y))).length = s.length := List.length_mergeSort _
      obtain ⟨u, hu⟩ : ∃ u, u = s.mergeSort (fun x y => decide (x ≤ y)) := ⟨_, rfl⟩
      rw [← hu] at hsl ⊢
      have NU := Aside0.mk hu
      have HSL := Aside0.mk hsl
      have HCL := Aside0.mk (Lib.compact_length_le u)
      clear h3 c4 hy0 hu hsl
      have hmf : ∀ (fn : Fn) (first cap : Array Value) (w : World), (Instr.makeFunc fn first cap).run Tryz.prog w = .ok (.func fn first cap) w := fun _ _ _ _ => rfl
      go_enter Tryz.func13, Tryz.ntmps13
      go_wp2_with (first
        | (go_at_call 35; refine (impl_isRuler.calls k _ _ l0 true _ (by repeat (first | exact HR0.out | (with_reducible refine Kd.C_drewN ?_ _) | (with_reducible refine Kd.C_drew ?_))) HC0.out A1.out).mono ?_; rintro e w1 ⟨rfl, ⟨⟨n, rfl⟩⟩⟩)
        | ((with_reducible refine gate_dst (N := 8) rfl ?_); refine Kd.R_lit (Kd.int .i64) _ 3 ?hg (N := 8) ?hd (xs := ([] : List Int)) (inner := []) (ok := fun _ => True) (okp := fun _ => True) ?hr ?hp (fun _ hk => hk) trivial (Below.refl _ _) (Nat.le_refl _) (by simp) ?_; (case hd => rfl); (case hg => rfl); (case hr => first | (go_simp; done) | (go_simp; rfl)); (case hp => exact (Reps.none _ _)); intro v8 w8 ho hb hg_ hnew_; clear hg_ hnew_; rw [← NY.out] at ho; have HO := Aside0.mk (Kd.R_lower ho (below_size (by repeat (first | exact HB.out | apply below_alloc | apply pw_below_drewN | apply below_drew1)))); have n1_ := Aside0.mk (below_step (by repeat (first | exact HB.out | apply below_alloc | apply pw_below_drewN | apply below_drew1)) hb); clear HB; have HB := n1_; clear n1_ ho hb; obtain ⟨A8, c8, rfl⟩ := Kd.R_slice HO.out)
        | ((with_reducible refine gate_dst (N := 4) rfl ?_); refine box_event ?hg (N := 4) ?hd (cs := #[.slice none 0 0]) (t := 23) ?hr ?_; (case hd => rfl); (case hg => rfl); (case hr => first | (go_simp; done) | (go_simp; rfl)); intro gf hg w3 hbox hb; have GE := Aside0.mk (show w.heap.size ≤ gf by rw [hg]; exact HB.out.size); have n0_ := Aside0.mk (below_step HB.out hb); have n2_ := Aside0.mk (Kd.R_below HO.out hb); have BK := Aside0.mk hbox; have cg : _ = some _ := blk_cell hbox 0; have fg := blk_frozen hbox 0; clear hg hb hbox HB HO; have HB := n0_; have HO := n2_; clear n0_ n2_)
        | (go_at_call 36; refine (impl_foldings.calls impl_FoldEnds.step 37 _ Tryz.func37 (by kernel_rfl) rfl #[.pointer (some ⟨gf, 0, none⟩)] w.heap.size (impl_FoldEnds.R gf w) k A0 c0 l0 y0 s _ ?hm ?ht ?hB ?hr HC0.out ?hs A3.out).mono ?_; (case hm => exact fun s w1 w2 h1 _ h2 => impl_FoldEnds.moves h1 h2); (case ht => exact fun s s' t p q w1 h1 h2 => impl_FoldEnds.tell gf w s s' t p q w1 GE.out h1 h2); (case hB => exact (below_set HB.out GE.out).size); (case hr => exact fun w' hb => Kd.C_below HR0.out (Below.trans (below_set HB.out GE.out) hb)); (case hs => exact ⟨below_set HB.out GE.out, A8, c8, blk_put BK.out 0 _ rfl, Kd.R_set HO.out BK.out (by decide) 0 _⟩); rintro e w4 ⟨rfl, hs, hb⟩; obtain ⟨hs1, A9, c9, hs2, hs3⟩ := hs; obtain ⟨g9, cap9, hv9, _, _, _, _⟩ := Kd.R_form hs3 HP.out.1; cases hv9; have c9_ : _ = some _ := blk_cell hs2 0; have n0_ := Aside0.mk hs1; have n1_ := Aside0.mk hs2; have n2_ := Aside0.mk hs3; clear HB HO BK cg fg hb hs1 hs2 hs3; have HB := n0_; have BK := n1_; have HO := n2_; clear n0_ n1_ n2_)
        | (go_at_call 38; refine (slices_Sort_int_int.calls g9 c9 w.heap.size s _ HO.out HP.out.2).mono ?_; rintro e w5 ⟨rfl, hr5, hg5⟩; rw [← NU.out, ← HSL.out] at hr5; have n0_ := Aside0.mk (pw_below_grown HB.out _ HB.out.size hg5 (Kd.R_base HO.out)); have hk := blk_grown BK.out hg5 (Kd.R_ne HO.out BK.out (by decide)); rw [← HSL.out] at hk; have n1_ := Aside0.mk hk; have n2_ := Aside0.mk hr5; have c10_ : _ = some _ := blk_cell hk 0; clear HB HO BK c9_ hr5 hg5 hk; have HB := n0_; have BK := n1_; have HO := n2_; clear n0_ n1_ n2_)
        | (go_at_call 40; refine (slices_Compact_int_int.calls g9 c9 w.heap.size u _ HO.out (by rw [HSL.out]; exact HP.out.2)).mono ?_; rintro e w6 ⟨rfl, hr6, hg6⟩; have n0_ := Aside0.mk (pw_below_grown HB.out _ HB.out.size hg6 (Kd.R_base HO.out)); have n2_ := Aside0.mk hr6; clear HB HO BK hr6 hg6; have HB := n0_; have HO := n2_; clear n0_ n2_)
        | (go_at_call 39; refine (slices_Clip_int_int.calls _ _ _ _ (Kd.R_reads' HO.out).2.1 (by have := HCL.out; have := HSL.out; have := HP.out.2; omega)).mono ?_; rintro e w7 ⟨rfl, rfl⟩))
      go_ret2
      exact ⟨_, rfl, Kd.V_mk (Nat.le_refl _) (Kd.F_mono (Kd.R_F (Kd.R_bound HO.out)) (fun k hk => hk.2.1)), HB.out⟩
    · rw [if_neg c4] at h
      exact absurd h (by simp)
  · replace c3 := Bool.eq_false_iff.mpr c3
    subst c3
    rw [if_neg (by decide)] at h
    simp only [Option.some.injEq, Prod.mk.injEq] at h
    obtain ⟨rfl, rfl⟩ := h
    go_enter Tryz.func13, Tryz.ntmps13
    go_wp2_with (first
      | (go_at_call 35; refine (impl_isRuler.calls k _ _ l0 false _ (by repeat (first | exact HR0.out | (with_reducible refine Kd.C_drewN ?_ _) | (with_reducible refine Kd.C_drew ?_))) HC0.out A1.out).mono ?_; rintro e w1 ⟨rfl, ⟨⟨n, rfl⟩⟩⟩))
    go_ret2
    exact ⟨_, rfl, Kd.V_nil _ _ _ _ _, by repeat (first | (with_reducible first | exact HB.out | apply below_alloc | apply pw_below_drewN | apply below_drew1) | exact HB.out)⟩

/-! ### strings_Join: function 125, from the shelf -/
def strings_Join.f (xs : List ByteArray) (sep : ByteArray) : Option ByteArray := if xs.length ≤ 1000 ∧ (Lib.join (xs.map (·.data.toList)) sep.data.toList).length ≤ 1048576 then some ⟨(Lib.join (xs.map (·.data.toList)) sep.data.toList).toArray⟩ else none
theorem strings_Join.spot {w : World} {a : Addr} {v : Value} (h : w.cell? a = some v) : a.spot = none := by
  unfold World.cell? at h
  split at h
  · split at h
    · simp at h
    · next hs => simpa using hs
  · simp at h
theorem strings_Join.calls (A0 : Option Addr) (c0 : Nat) (l0 : List ByteArray) (a1 : ByteArray) (r : ByteArray) (w : World) (hr0 : Kd.C Kd.string w A0 l0.length l0) (hc0 : l0.length ≤ c0) (h : strings_Join.f l0 a1 = some r) :
    Calls Tryz.prog 125 #[.slice A0 l0.length c0, .string a1] w fun e w' => e = .returned (.string r) ∧ Below w.heap.size w w' := by
  unfold strings_Join.f at h
  split at h
  · next hc =>
    injection h with h
    subst h
    match l0, hr0, hc0, hc with
    | [], _, _, _ =>
      refine (Go.Proofs.YtcmpkabpmmmhoaaGreatDoor.Shelf.Tryz.strings_Join_none A0 c0 a1 w).mono ?_
      rintro e w' ⟨rfl, rfl⟩
      exact ⟨rfl, Below.refl _ _⟩
    | x :: xs, hr0, hc0, hc =>
      obtain ⟨ad, rfl, h0⟩ := Kd.at_string hr0 0 (by omega) (by simp)
      have hsp := strings_Join.spot h0
      have hblk := World.block_lt_of_cell? _ _ h0
      obtain ⟨bk, o, sp⟩ := ad
      have hsp : sp = none := hsp
      subst hsp
      refine (Go.Proofs.YtcmpkabpmmmhoaaGreatDoor.Shelf.Tryz.strings_Join bk o c0 (x :: xs) a1 w (fun j y hj => ?_) hblk (by omega) hc0 (by omega)).mono ?_
      · obtain ⟨hjl, hje⟩ := List.getElem?_eq_some_iff.mp hj
        obtain ⟨ad, e, h1⟩ := Kd.at_string hr0 (j : Int) (by omega) (by omega)
        injection e with e
        subst e
        have e2 : rdOf ByteArray.empty (x :: xs) (j : Int) = y := by
          unfold rdOf
          rw [Int.toNat_natCast, List.getD_eq_getElem?_getD, hj]
          rfl
        rw [e2, Int.toNat_natCast] at h1
        have ha : (⟨bk, o, none⟩ : Addr).add j = ⟨bk, o + j, none⟩ := by
          unfold Addr.add
          split
          · next h0 => rw [h0]; rfl
          · rfl
        rw [ha] at h1
        exact h1
      · rintro e w' ⟨rfl, hb⟩
        exact ⟨rfl, hb⟩
  · simp at h

/-! ### impl_numbersText: function 124 -/
def impl_numbersText.l0 : Nat → ByteArray → List ByteArray → List Int → Int → Int → Option (ByteArray)
  | 0, _, _, _, _, _ => none
  | k + 1, x1, x5, x9, x10, x11 => if x11 < x10 then (if 0 ≤ x11 then (if x11 < (x9.length : Int) then ((strconv_Itoa.f (rd x9 x11)).bind fun t116 => (if x5.length < 8796093022208 then (impl_numbersText.l0 k x1 (x5 ++ [t116]) x9 x10 (wrap64 (x11 + 1))) else (none))) else (none)) else (none)) else ((strings_Join.f x5 x1).bind fun t120 => (some t120))
def impl_numbersText.f (k : Nat) (l0 : List Int) (a1 : ByteArray) : Option (ByteArray) := impl_numbersText.l0 k a1 (([] : List ByteArray)) l0 (l0.length : Int) 0
theorem impl_numbersText.mono_l : ∀ k, (∀ y0 y1 y2 y3 y4, LeO (impl_numbersText.l0 k y0 y1 y2 y3 y4) (impl_numbersText.l0 (k + 1) y0 y1 y2 y3 y4))
  | 0 => fun _ _ _ _ _ r h => by simp [impl_numbersText.l0] at h
  | k + 1 => by
    have ih0 := impl_numbersText.mono_l k
    · intro y0 y1 y2 y3 y4
      unfold impl_numbersText.l0
      repeat' first
      | (with_reducible exact ih0 _ _ _ _ _)
      | (with_reducible exact LeO.refl _)
      | (with_reducible exact LeO.none _)
      | (with_reducible refine LeO.ite ?_ ?_)
      | (with_reducible refine LeO.bind ?_ (fun _ => ?_))
      | exact ih0 _ _ _ _ _
      | exact LeO.none _
      | refine LeO.ite ?_ ?_
      | refine LeO.bind ?_ (fun _ => ?_)
theorem impl_numbersText.mono : ∀ a0 a1 k, LeO (impl_numbersText.f k a0 a1) (impl_numbersText.f (k + 1) a0 a1) := by
  intro a0 a1 k
  have ih0 := impl_numbersText.mono_l k
  unfold impl_numbersText.f
  repeat' first
      | (with_reducible exact ih0 _ _ _ _ _)
      | (with_reducible exact LeO.refl _)
      | (with_reducible exact LeO.none _)
      | (with_reducible refine LeO.ite ?_ ?_)
      | (with_reducible refine LeO.bind ?_ (fun _ => ?_))
      | exact ih0 _ _ _ _ _
      | exact LeO.none _
      | refine LeO.ite ?_ ?_
      | refine LeO.bind ?_ (fun _ => ?_)
set_option maxHeartbeats 8000000 in
set_option maxRecDepth 100000 in
theorem impl_numbersText.calls (k : Nat) (A0 : Option Addr) (c0 : Nat) (l0 : List Int) (a1 : ByteArray) (r : ByteArray) (w : World) (hr0 : Kd.C (Kd.int .i64) w A0 l0.length l0) (hc0 : l0.length ≤ c0) (h : impl_numbersText.f k l0 a1 = some r) (htab_ : TabW w) :
    Calls Tryz.prog 124 #[.slice A0 l0.length c0, .string a1] w fun e w' => e = .returned (.string r) ∧ Below w.heap.size w w' := by
  have HTAB_ := Aside0.mk htab_
  clear htab_
  have HR0 := Aside0.mk hr0
  have HC0 := Aside0.mk hc0
  clear hr0 hc0
  have HB := Aside0.mk (Below.refl w.heap.size w)
  have H : (impl_numbersText.l0 k a1 (([] : List ByteArray)) l0 (l0.length : Int) 0) = some r := h
  clear h
  obtain ⟨y112, hy112⟩ : ∃ y_ : List ByteArray, y_ = (([] : List ByteArray)) := ⟨_, rfl⟩
  replace H : (impl_numbersText.l0 k a1 y112 l0 (l0.length : Int) 0) = some r := by first | (rw [hy112]; with_reducible exact H) | (have H2_ := (Option.bind_some _ _).symm.trans H; rw [hy112]; with_reducible exact H2_) | (have H2_ := (Option.bind_some _ _).symm.trans H; with_reducible exact H2_) | with_reducible exact H | (rw [hy112]; exact H) | exact H
  have Ny112 := Aside0.mk hy112
  clear hy112
  have H' := Aside0.mk H
  clear H
  go_enter Tryz.func124, Tryz.ntmps124
  go_wp2_with (first | ((with_reducible refine gate_dst (N := 8) rfl ?_); refine Kd.R_lit Kd.string _ 9 ?hg (N := 8) ?hd (xs := ([] : List ByteArray)) (inner := []) (ok := fun _ => True) (okp := fun _ => True) ?hr ?hp (fun _ hk => hk) trivial (Below.refl _ _) (Nat.le_refl _) (by simp) ?_; (case hd => rfl); (case hg => rfl); (case hr => first | (go_simp; done) | (go_simp; rfl)); (case hp => exact (Reps.none _ _)); intro v113 w3 ho4 hb hg_ hnew_; clear hg_ hnew_; (first | rw [← Ny112.out] at ho4 | (simp only [Int.reduceToNat] at ho4; rw [← Ny112.out] at ho4)); have n0_ := Aside0.mk (Kd.R_lower ho4 (below_size (by repeat (first | (with_reducible first | exact HB.out | apply below_alloc | apply pw_below_drewN | apply below_drew1) | exact HB.out)))); have n1_ := Aside0.mk (below_step (by repeat (first | (with_reducible first | exact HB.out | apply below_alloc | apply pw_below_drewN | apply below_drew1) | exact HB.out)) hb); clear HB; have HO114 := n0_; have HB := n1_; clear n0_ n1_; clear hb ho4))
  go_loopg [5, 11] k (fun kq v5 v11 w' => ∃ (x5_1 : List ByteArray) (x11_1 : Int), v11 = .int .i64 x11_1 ∧ Aside0 (impl_numbersText.l0 kq a1 x5_1 l0 (l0.length : Int) x11_1 = some r) ∧ Aside0 (kq ≤ k) ∧ Aside0 (Kd.R Kd.string 9 w' w.heap.size (fun _ => True) v5 x5_1) ∧ Aside0 (Below w.heap.size w w'))
  case atStart => exact ⟨(y112), (0), (by first | rfl | (simp; done) | (simp [*]; done)), H', ⟨Nat.le_refl _⟩, ⟨by (with_reducible repeat (first | apply Kd.R_alloc | apply Kd.R_drewN | apply Kd.R_drew)); exact HO114.out⟩, ⟨by repeat (first | (with_reducible first | exact HB.out | apply below_alloc | apply pw_below_drewN | apply below_drew1) | exact HB.out)⟩⟩
  case round =>
    clear H'
    try clear c1
    try clear p2
    obtain ⟨x5_1, x11_1, rfl, HA, HK1, HO_5, HB⟩ := hrel
    cases gk with
    | zero => exact absurd HA.out (by simp [impl_numbersText.l0])
    | succ k1 =>
      have H := HA.out
      clear HA
      simp only [impl_numbersText.l0] at H
      by_cases c5 : x11_1 < (l0.length : Int)
      · rw [if_pos c5] at H
        have c5b0 : decide (x11_1 < (l0.length : Int)) = true := decide_eq_true c5
        clear c5
        by_cases c6 : 0 ≤ x11_1
        · rw [if_pos c6] at H
          have c6b0 : decide (0 ≤ x11_1) = true := decide_eq_true c6
          clear c6
          by_cases c7 : x11_1 < (l0.length : Int)
          · rw [if_pos c7] at H
            have c7b0 : decide (x11_1 < (l0.length : Int)) = true := decide_eq_true c7
            clear c7
            replace H := Option.bind_eq_some_iff.mp H
            obtain ⟨t116, A80, H⟩ := H
            replace H : (if x5_1.length < 8796093022208 then (impl_numbersText.l0 k1 a1 (x5_1 ++ [t116]) l0 (l0.length : Int) (wrap64 (x11_1 + 1))) else (none)) = some r := H
            have A8 := Aside0.mk A80
            clear A80
            by_cases c9 : x5_1.length < 8796093022208
            · rw [if_pos c9] at H
              have LMc9 := Aside0.mk c9
              clear c9
              obtain ⟨y117, hy117⟩ : ∃ y_ : List ByteArray, y_ = (x5_1 ++ [t116]) := ⟨_, rfl⟩
              replace H : (impl_numbersText.l0 k1 a1 y117 l0 (l0.length : Int) (wrap64 (x11_1 + 1))) = some r := by first | (rw [hy117]; with_reducible exact H) | (have H2_ := (Option.bind_some _ _).symm.trans H; rw [hy117]; with_reducible exact H2_) | (have H2_ := (Option.bind_some _ _).symm.trans H; with_reducible exact H2_) | with_reducible exact H | (rw [hy117]; exact H) | exact H
              have Ny117 := Aside0.mk hy117
              clear hy117
              have H' := Aside0.mk H
              clear H
              have p115 : 0 ≤ (x11_1 : Int) := of_decide_eq_true (by first | (with_reducible assumption) | assumption)
              have q115 : x11_1 < (l0.length : Int) := of_decide_eq_true (by first | (with_reducible assumption) | assumption)
              obtain ⟨ad115, e115, hx115_0⟩ := Kd.at_int HR0.out x11_1 p115 q115
              cases e115
              replace hx115_0 := (HB.out.cell (World.block_lt_of_cell? w _ hx115_0)).trans hx115_0
              replace p115 := eq_true p115
              replace q115 := eq_true q115
              go_wp2_with (first | ((with_reducible refine gate_callee (f := 22) rfl ?_); refine goesL_ (some 17) rfl rfl Tryz.func22 (by kernel_rfl) rfl #[.int .i64 (rd l0 x11_1)] rfl (by (try simp only [List.map_toArray, List.map_cons, List.map_nil]); first | done | rfl | (simp only [List.length_drop, List.length_take]; rfl)) ?_; (with_reducible refine (strconv_Itoa.calls (rd l0 x11_1) t116 _ A8.out (TabW.below HTAB_.out (by repeat (first | (with_reducible first | exact HB.out | apply below_alloc | apply pw_below_drewN | apply below_drew1) | exact HB.out)))).mono ?_); rintro e w10 ⟨rfl, hb⟩; refine ⟨_, rfl, ?_⟩; have n0_ := Aside0.mk (Kd.R_below (by (with_reducible repeat (first | apply Kd.R_alloc | apply Kd.R_drewN | apply Kd.R_drew)); exact HO_5.out) hb); have n1_ := Aside0.mk (below_step (by repeat (first | (with_reducible first | exact HB.out | apply below_alloc | apply pw_below_drewN | apply below_drew1) | exact HB.out)) hb); clear HO_5; clear HB; have HO_5 := n0_; have HB := n1_; clear n0_ n1_; (try clear hb); (try clear hb2); (try clear hk); (try clear hi)) | ((with_reducible refine gate_builtin (b := .append) (xs := #[.tmp 15, .tmp 18]) rfl ?_); at_builtin; refine Kd.R_append Kd.string (w0 := w) w.heap.size rfl (.tmp 15) (.tmp 18) 41 9 (.string ⟨#[]⟩) 16 rfl Tryz.underlying41 info9 rfl (by decide) (by omega) u5 x5_1 t116 [.string t116] (fun _ => True) (fun _ => False) rfl rfl ?aP (fun _ hk => hk.elim) ?aF ?aO ?aB ?aS ?aL ?_; (case aP => exact rfl); (case aB => exact (by repeat (first | (with_reducible first | exact HB.out | apply below_alloc | apply pw_below_drewN | apply below_drew1) | exact HB.out))); (case aF => exact (fun _ _ => trivial)); (case aO => exact (by (with_reducible repeat (first | apply Kd.R_alloc | apply Kd.R_drewN | apply Kd.R_drew)); exact HO_5.out)); (case aS => exact (below_size (by repeat (first | (with_reducible first | exact HB.out | apply below_alloc | apply pw_below_drewN | apply below_drew1) | exact HB.out)))); (case aL => have := LMc9.out; omega); intro v118 w11 ho hb hg hat; rw [← Ny117.out] at ho; have n0_ := Aside0.mk (hb); have n1_ := Aside0.mk (ho); clear HB; clear HO_5; have HB := n0_; have HO119 := n1_; clear n0_ n1_; clear ho hb hg hat))
              go_roundg k1
              case measure => have := HK1.out; omega
              case rel => exact ⟨(y117), (wrap64 (x11_1 + 1)), (by first | rfl | (simp; done) | (simp [*]; done)), H', ⟨by have := HK1.out; omega⟩, ⟨by (with_reducible repeat (first | apply Kd.R_alloc | apply Kd.R_drewN | apply Kd.R_drew)); exact HO119.out⟩, ⟨by repeat (first | (with_reducible first | exact HB.out | apply below_alloc | apply pw_below_drewN | apply below_drew1) | exact HB.out)⟩⟩
            · rw [if_neg c9] at H
              exact absurd H (by simp)
          · rw [if_neg c7] at H
            exact absurd H (by simp)
        · rw [if_neg c6] at H
          exact absurd H (by simp)
      · rw [if_neg c5] at H
        have c5b0 : decide (x11_1 < (l0.length : Int)) = false := decide_eq_false c5
        clear c5
        replace H := Option.bind_eq_some_iff.mp H
        obtain ⟨t120, A120, H⟩ := H
        replace H : (some t120) = some r := H
        have A12 := Aside0.mk A120
        clear A120
        obtain rfl := Option.some.inj H
        obtain ⟨Ao13, co13, eo13⟩ := Kd.R_slice HO_5.out
        subst eo13
        go_wp2_with (first | ((with_reducible refine gate_callee (f := 125) rfl ?_); refine goesL_ (some 23) rfl rfl Tryz.func125 (by kernel_rfl) rfl #[.slice Ao13 x5_1.length co13, .string a1] rfl (by (try simp only [List.map_toArray, List.map_cons, List.map_nil]); first | done | rfl | (simp only [List.length_drop, List.length_take]; rfl)) ?_; (with_reducible refine (strings_Join.calls _ _ x5_1 a1 t120 _ ?side1 ?side2 A12.out).mono ?_); (case side1 => repeat (first | exact (Kd.R_reads' HO_5.out).2.2 | (with_reducible refine Kd.C_alloc ?_ _) | (with_reducible refine Kd.C_drewN ?_ _) | (with_reducible refine Kd.C_drew ?_))); (case side2 => exact (Kd.R_reads' HO_5.out).2.1); rintro e w14 ⟨rfl, hb⟩; refine ⟨_, rfl, ?_⟩; have n0_ := Aside0.mk (Kd.R_below (by (with_reducible repeat (first | apply Kd.R_alloc | apply Kd.R_drewN | apply Kd.R_drew)); exact HO_5.out) hb); have n1_ := Aside0.mk (below_step (by repeat (first | (with_reducible first | exact HB.out | apply below_alloc | apply pw_below_drewN | apply below_drew1) | exact HB.out)) hb); clear HO_5; clear HB; have HO_5 := n0_; have HB := n1_; clear n0_ n1_; (try clear hb); (try clear hb2); (try clear hk); (try clear hi)))
        go_ret
        exact ⟨by first | rfl | (simp [errW_none, errW_some] <;> rfl) | (simp [*, errW_none, errW_some] <;> rfl) | (exfalso; simp_all; done), by repeat (first | (with_reducible first | exact HB.out | apply below_alloc | apply pw_below_drewN | apply below_drew1) | exact HB.out)⟩

/-! ### impl_told: function 65 -/
def impl_told.f (k : Nat) (l0 : List Int) (a1 : Bool) : Option (ByteArray) := if a1 = true then (if (l0.length : Int) = 0 then (some (⟨#[46]⟩ : ByteArray)) else ((impl_numbersText.f k l0 (⟨#[32]⟩ : ByteArray)).bind fun t121 => (some t121))) else (some (⟨#[110, 111]⟩ : ByteArray))
theorem impl_told.mono : ∀ a0 a1 k, LeO (impl_told.f k a0 a1) (impl_told.f (k + 1) a0 a1) := by
  intro a0 a1 k
  unfold impl_told.f
  repeat' first
      | (with_reducible exact impl_numbersText.mono _ _ _)
      | (with_reducible exact LeO.refl _)
      | (with_reducible exact LeO.none _)
      | (with_reducible refine LeO.ite ?_ ?_)
      | (with_reducible refine LeO.bind ?_ (fun _ => ?_))
      | exact impl_numbersText.mono _ _ _
      | exact LeO.none _
      | refine LeO.ite ?_ ?_
      | refine LeO.bind ?_ (fun _ => ?_)
set_option maxHeartbeats 8000000 in
set_option maxRecDepth 100000 in
theorem impl_told.calls (k : Nat) (A0 : Option Addr) (c0 : Nat) (l0 : List Int) (a1 : Bool) (r : ByteArray) (w : World) (hr0 : Kd.C (Kd.int .i64) w A0 l0.length l0) (hc0 : l0.length ≤ c0) (h : impl_told.f k l0 a1 = some r) (htab_ : TabW w) :
    Calls Tryz.prog 65 #[.slice A0 l0.length c0, .bool a1] w fun e w' => e = .returned (.string r) ∧ Below w.heap.size w w' := by
  have HTAB_ := Aside0.mk htab_
  clear htab_
  have HR0 := Aside0.mk hr0
  have HC0 := Aside0.mk hc0
  clear hr0 hc0
  have HB := Aside0.mk (Below.refl w.heap.size w)
  have H : (if a1 = true then (if (l0.length : Int) = 0 then (some (⟨#[46]⟩ : ByteArray)) else ((impl_numbersText.f k l0 (⟨#[32]⟩ : ByteArray)).bind fun t121 => (some t121))) else (some (⟨#[110, 111]⟩ : ByteArray))) = some r := h
  clear h
  by_cases c3 : a1 = true
  · subst c3
    have H1 : (if (l0.length : Int) = 0 then (some (⟨#[46]⟩ : ByteArray)) else ((impl_numbersText.f k l0 (⟨#[32]⟩ : ByteArray)).bind fun t121 => (some t121))) = some r := by rw [if_pos rfl] at H; exact H
    clear H
    have H := H1
    clear H1
    by_cases c4 : (l0.length : Int) = 0
    · rw [if_pos c4] at H
      have c4b0 : ((l0.length : Int) == 0) = true := beq_iff_eq.mpr c4
      have c4b1 : ((l0.length : Int) != 0) = false := bne_eq_false_iff_eq.mpr c4
      clear c4
      obtain rfl := Option.some.inj H
      go_enter Tryz.func65, Tryz.ntmps65
      go_wp2
      go_ret
      exact ⟨by first | rfl | (simp [errW_none, errW_some] <;> rfl) | (simp [*, errW_none, errW_some] <;> rfl) | (exfalso; simp_all; done), by repeat (first | (with_reducible first | exact HB.out | apply below_alloc | apply pw_below_drewN | apply below_drew1) | exact HB.out)⟩
    · rw [if_neg c4] at H
      have c4b0 : ((l0.length : Int) == 0) = false := beq_eq_false_iff_ne.mpr c4
      have c4b1 : ((l0.length : Int) != 0) = true := bne_iff_ne.mpr c4
      have c4b2 : ¬ (l0 = []) := fun h_ => c4 (by rw [h_]; rfl)
      replace H := Option.bind_eq_some_iff.mp H
      obtain ⟨t121, A50, H⟩ := H
      replace H : (some t121) = some r := H
      have A5 := Aside0.mk A50
      clear A50
      obtain rfl := Option.some.inj H
      go_enter Tryz.func65, Tryz.ntmps65
      go_wp2_with (first | ((with_reducible refine gate_callee (f := 124) rfl ?_); refine goesL_ (some 11) rfl rfl Tryz.func124 (by kernel_rfl) rfl #[.slice A0 l0.length c0, .string (⟨#[32]⟩ : ByteArray)] rfl (by (try simp only [List.map_toArray, List.map_cons, List.map_nil]); first | done | rfl | (simp only [List.length_drop, List.length_take]; rfl)) ?_; (with_reducible refine (impl_numbersText.calls k _ _ l0 (⟨#[32]⟩ : ByteArray) t121 _ ?side1 ?side2 A5.out (TabW.below HTAB_.out (by repeat (first | (with_reducible first | exact HB.out | apply below_alloc | apply pw_below_drewN | apply below_drew1) | exact HB.out)))).mono ?_); (case side1 => repeat (first | exact HR0.out | (with_reducible refine Kd.C_alloc ?_ _) | (with_reducible refine Kd.C_drewN ?_ _) | (with_reducible refine Kd.C_drew ?_))); (case side2 => exact HC0.out); rintro e w6 ⟨rfl, hb⟩; refine ⟨_, rfl, ?_⟩; have n0_ := Aside0.mk (below_step (by repeat (first | (with_reducible first | exact HB.out | apply below_alloc | apply pw_below_drewN | apply below_drew1) | exact HB.out)) hb); clear HB; have HB := n0_; clear n0_; (try clear hb); (try clear hb2); (try clear hk); (try clear hi)))
      go_ret
      exact ⟨by first | rfl | (simp [errW_none, errW_some] <;> rfl) | (simp [*, errW_none, errW_some] <;> rfl) | (exfalso; simp_all; done), by repeat (first | (with_reducible first | exact HB.out | apply below_alloc | apply pw_below_drewN | apply below_drew1) | exact HB.out)⟩
  · replace c3 := Bool.eq_false_iff.mpr c3
    subst c3
    have H1 : (some (⟨#[110, 111]⟩ : ByteArray)) = some r := by rw [if_neg (show ¬ (false = true) by decide)] at H; exact H
    clear H
    have H := H1
    clear H1
    obtain rfl := Option.some.inj H
    go_enter Tryz.func65, Tryz.ntmps65
    go_wp2
    go_ret
    exact ⟨by first | rfl | (simp [errW_none, errW_some] <;> rfl) | (simp [*, errW_none, errW_some] <;> rfl) | (exfalso; simp_all; done), by repeat (first | (with_reducible first | exact HB.out | apply below_alloc | apply pw_below_drewN | apply below_drew1) | exact HB.out)⟩

/-! ### impl_withoutRest: function 32, by hand: the lines that this law asks -/
def impl_withoutRest.f_ends (k : Nat) (l : List Int) : Option (ByteArray × List Int) := (impl_FoldEnds.f k l).bind fun q => (impl_told.f k q.1 q.2).bind fun t => some (t, l)
theorem impl_withoutRest.mono_ends (k : Nat) (l : List Int) : LeO (impl_withoutRest.f_ends k l) (impl_withoutRest.f_ends (k + 1) l) := LeO.bind (impl_FoldEnds.mono _ _) (fun _ => LeO.bind (impl_told.mono _ _  _) (fun _ => LeO.refl _))
set_option maxHeartbeats 8000000 in
set_option maxRecDepth 100000 in
theorem impl_withoutRest.go_ends (k : Nat) (B g : Nat) (A0 : Option Addr) (c0 : Nat) (l0 : List Int) (r : ByteArray) (l1 : List Int) (w : World) (hg : w.heap[g]? = some (.cells #[.slice A0 l0.length c0] 23 (0, 0))) (hr0 : Kd.R (Kd.int .i64) 3 w B (fun _ => True) (.slice A0 l0.length c0) l0) (hB : B ≤ g) (htab_ : TabW w) (h : impl_withoutRest.f_ends k l0 = some (r, l1)) :
    Calls Tryz.prog 32 #[.pointer (some ⟨g, 0, none⟩), .string ⟨#[101, 110, 100, 115]⟩] w fun e w' => e = .returned (.string r) ∧ Ruled w w' B g l1 := by
  have HG := Aside0.mk hg
  have HR := Aside0.mk hr0
  have HB := Aside0.mk (Below.refl w.heap.size w)
  have HBB := Aside0.mk (show B ≤ w.heap.size from Nat.le_trans hB (Nat.le_of_lt (blk_lt hg)))
  have HTAB_ := Aside0.mk htab_
  have cg : _ = some _ := blk_cell hg 0
  clear hg hr0 hB htab_
  obtain ⟨⟨t1, t2⟩, h1, h⟩ := Option.bind_eq_some_iff.mp h
  obtain ⟨t, h2, h⟩ := Option.bind_eq_some_iff.mp h
  simp only [Option.some.injEq, Prod.mk.injEq] at h
  obtain ⟨rfl, rfl⟩ := h
  have A1 := Aside0.mk h1
  have A2 := Aside0.mk h2
  clear h1 h2
  go_enter Tryz.func32, Tryz.ntmps32
  go_wp2_with (first
    | (go_at_call 13; refine (impl_FoldEnds.calls k A0 c0 l0 t1 t2 _ (by (with_reducible repeat (first | apply Kd.C_alloc | apply Kd.C_drewN | apply Kd.C_drew)); exact Kd.C_below (Kd.R_reads' HR.out).2.2 (by repeat (first | (with_reducible first | exact HB.out | apply below_alloc | apply pw_below_drewN | apply below_drew1) | exact HB.out))) (Kd.R_reads' HR.out).2.1 A1.out).mono ?_; rintro e w1_ ⟨v1, rfl, hr1, hb1⟩; obtain ⟨A7, c7, rfl⟩ := Kd.V_slice hr1; have HQ := Aside0.mk (And.intro (Kd.V_reads' hr1).2.2 (Kd.V_reads' hr1).2.1); have n0_ := Aside0.mk (below_step (by repeat (first | (with_reducible first | exact HB.out | apply below_alloc | apply pw_below_drewN | apply below_drew1) | exact HB.out)) hb1); clear HB hr1 hb1; have HB := n0_; clear n0_)
    | (go_at_call 65; refine (impl_told.calls k A7 c7 t1 t2 t _ HQ.out.1 HQ.out.2 A2.out (HTAB_.out.below (by repeat (first | (with_reducible first | exact HB.out | apply below_alloc | apply pw_below_drewN | apply below_drew1) | exact HB.out)))).mono ?_; rintro e w1_ ⟨rfl, hb1⟩; have n0_ := Aside0.mk (below_step (by repeat (first | (with_reducible first | exact HB.out | apply below_alloc | apply pw_below_drewN | apply below_drew1) | exact HB.out)) hb1); clear HB hb1; have HB := n0_; clear n0_))
  go_ret
  exact ⟨rfl, Ruled.same HG.out HR.out (by repeat (first | (with_reducible first | exact HB.out | apply below_alloc | apply pw_below_drewN | apply below_drew1) | exact HB.out))⟩
def impl_withoutRest.f (k : Nat) (l : List Int) (word : ByteArray) : Option (ByteArray × List Int) :=
  if word = (⟨#[101, 110, 100, 115]⟩ : ByteArray) then impl_withoutRest.f_ends k l else none
theorem impl_withoutRest.mono : ∀ a0 a1 k, LeO (impl_withoutRest.f k a0 a1) (impl_withoutRest.f (k + 1) a0 a1) := fun _ _ _ => LeO.ite (impl_withoutRest.mono_ends _ _) (LeO.refl _)
theorem impl_withoutRest.calls (k : Nat) (B g : Nat) (A0 : Option Addr) (c0 : Nat) (l0 : List Int) (word r : ByteArray) (l1 : List Int) (w : World) (hg : w.heap[g]? = some (.cells #[.slice A0 l0.length c0] 23 (0, 0))) (hr0 : Kd.R (Kd.int .i64) 3 w B (fun _ => True) (.slice A0 l0.length c0) l0) (hB : B ≤ g) (htab_ : TabW w) (h : impl_withoutRest.f k l0 word = some (r, l1)) :
    Calls Tryz.prog 32 #[.pointer (some ⟨g, 0, none⟩), .string word] w fun e w' => e = .returned (.string r) ∧ Ruled w w' B g l1 := by
  unfold impl_withoutRest.f at h
  by_cases d_ends : word = (⟨#[101, 110, 100, 115]⟩ : ByteArray)
  · rw [if_pos d_ends] at h
    subst d_ends
    exact impl_withoutRest.go_ends k B g A0 c0 l0 r l1 w hg hr0 hB htab_ h
  rw [if_neg d_ends] at h
  exact absurd h (by simp)

-- NOT PRINTED: function 33 (strings_Builder_String)

/-! ### impl_Execute: function 9, by hand -/
def impl_Execute.l0 : Nat → List ByteArray → List UInt8 → List Int → Int → Option (List UInt8 × List Int)
  | 0, _, _, _, _ => none
  | k + 1, ls, acc, l, i => if i < (ls.length : Int) then (if 0 ≤ i then (if (rdOf ByteArray.empty ls i).size ≤ 4194304 then (if acc.length ≤ 1048576 then
      (if (strings_Cut.f (rdOf ByteArray.empty ls i)).2.2 = true then
        ((impl_withRest.f k l (strings_Cut.f (rdOf ByteArray.empty ls i)).1 (strings_Cut.f (rdOf ByteArray.empty ls i)).2.1).bind fun r => if r.1.size ≤ 4194304 then impl_Execute.l0 k ls (acc ++ (r.1 ++ (⟨#[10]⟩ : ByteArray)).data.toList) r.2 (wrap64 (i + 1)) else none)
      else
        ((impl_withoutRest.f k l (strings_Cut.f (rdOf ByteArray.empty ls i)).1).bind fun r => if r.1.size ≤ 4194304 then impl_Execute.l0 k ls (acc ++ (r.1 ++ (⟨#[10]⟩ : ByteArray)).data.toList) r.2 (wrap64 (i + 1)) else none))
      else none) else none) else none) else some (acc, l)
def impl_Execute.f (k : Nat) (s : ByteArray) : Option ByteArray := if (s.size : Int) > 600 then some (⟨#[116, 111, 111, 32, 108, 111, 110, 103, 10]⟩ : ByteArray) else
  ((strings_Split.f s (⟨#[10]⟩ : ByteArray)).bind fun ps => if 1 ≤ ps.length ∧ ps.length ≤ 8388608 then
    ((impl_Execute.l0 k (ps.take (ps.length - 1)) [] [3, 4, 5] 0).bind fun r => if r.1.length ≤ 1048576 then ((strconv_Itoa.f (r.2.length : Int)).bind fun t => if t.size ≤ 100 then some ⟨(r.1 ++ (((⟨#[115, 116, 105, 99, 107, 115, 32]⟩ : ByteArray) ++ t) ++ (⟨#[10]⟩ : ByteArray)).data.toList).toArray⟩ else none) else none) else none)
theorem impl_Execute.mono_l : ∀ k, (∀ y0 y1 y2 y3, LeO (impl_Execute.l0 k y0 y1 y2 y3) (impl_Execute.l0 (k + 1) y0 y1 y2 y3))
  | 0 => fun _ _ _ _ r h => by simp [impl_Execute.l0] at h
  | k + 1 => by
    have ih0 := impl_Execute.mono_l k
    intro y0 y1 y2 y3
    rw [impl_Execute.l0, impl_Execute.l0]
    exact LeO.ite (LeO.ite (LeO.ite (LeO.ite (LeO.ite (LeO.bind (impl_withRest.mono _ _ _ _) (fun _ => LeO.ite (ih0 _ _ _ _) (LeO.refl _))) (LeO.bind (impl_withoutRest.mono _ _ _) (fun _ => LeO.ite (ih0 _ _ _ _) (LeO.refl _)))) (LeO.refl _)) (LeO.refl _)) (LeO.refl _)) (LeO.refl _)
theorem impl_Execute.mono : ∀ a0 k, LeO (impl_Execute.f k a0) (impl_Execute.f (k + 1) a0) := fun _ k => LeO.ite (LeO.refl _) (LeO.bind (LeO.refl _) (fun _ => LeO.ite (LeO.bind (impl_Execute.mono_l k _ _ _ _) (fun _ => LeO.refl _)) (LeO.refl _)))
theorem impl_Execute.write (B b : Nat) (acc : List UInt8) (s : ByteArray) (w : World) (h : Lib.IsBuilderF 40 5 B b (Lib.byteCells acc) w) (hl : acc.length + s.size ≤ 140737488355328) (hB : B ≤ w.heap.size) :
    Calls Tryz.prog 30 #[.pointer (some ⟨b, 0, none⟩), .string s] w fun e w' => e = .returned (.tuple #[.int .i64 s.size, .nilIface]) ∧ Lib.IsBuilderF 40 5 B b (Lib.byteCells (acc ++ s.data.toList)) w' ∧ Below B w w' ∧ Lib.OthersKept 5 (some b) w w' := by
  have h0 := Any.Builder_WriteString_k (P := Tryz.prog) (ρ := Go.Proofs.YtcmpkabpmmmhoaaGreatDoor.Shelf.Tryz.lays156_ren) { Go.Proofs.YtcmpkabpmmmhoaaGreatDoor.Shelf.Tryz.lays156 with } Go.Proofs.YtcmpkabpmmmhoaaGreatDoor.Shelf.Tryz.Builder_Extra_156 B b (Lib.byteCells acc) s w h (by rw [Lib.byteCells_length]; exact hl) hB
  refine Calls.mono h0 ?_
  rintro e w' ⟨rfl, h1, h2, h3⟩
  refine ⟨rfl, .inr ?_, h2, h3⟩
  have e1 : Lib.byteCells (acc ++ s.data.toList) = Lib.byteCells acc ++ Lib.strCells s := by simp [Lib.byteCells, Lib.strCells]
  rw [e1]
  exact h1
/-- What holds at the head of a round: the ruler's cell and its list, the builder, the lines. -/
def impl_Execute.Inv (w0 : World) (g b : Nat) (acc : List UInt8) (l : List Int) (w : World) : Prop := Below w0.heap.size w0 w ∧ Lib.IsBuilderF 40 5 w0.heap.size b (Lib.byteCells acc) w ∧ ∃ A c, w.heap[g]? = some (.cells #[.slice A l.length c] 23 (0, 0)) ∧ Kd.R (Kd.int .i64) 3 w w0.heap.size (fun _ => True) (.slice A l.length c) l
/-- What a line's work leaves. -/
theorem impl_Execute.inv_ruled {w0 w w1 : World} {g b : Nat} {acc : List UInt8} {l l1 : List Int} (h : impl_Execute.Inv w0 g b acc l w) (hg : w0.heap.size ≤ g) (hr : Ruled w w1 w0.heap.size g l1) : impl_Execute.Inv w0 g b acc l1 w1 := by
  obtain ⟨h1, h2, A, c, h3, _⟩ := h
  exact ⟨below_ruled h1 hr.1 hg, builder_grown h2 hr.1 h3 (by decide) (by decide), hr.2⟩
theorem impl_Execute.lines_ruled {w0 w w1 : World} {g b : Nat} {acc : List UInt8} {l l1 : List Int} {v : Value} {ls : List ByteArray} (h : impl_Execute.Inv w0 g b acc l w) (hp : Kd.R Kd.string 9 w w0.heap.size (fun _ => True) v ls) (hr : Ruled w w1 w0.heap.size g l1) : Kd.R Kd.string 9 w1 w0.heap.size (fun _ => True) v ls := by
  obtain ⟨h1, h2, A, c, h3, _⟩ := h
  exact R_ruled hp hr.1 h3 (by decide)
/-- What a write to the builder leaves. -/
theorem impl_Execute.inv_wrote {w0 w w1 : World} {g b : Nat} {acc acc1 : List UInt8} {l : List Int} (h : impl_Execute.Inv w0 g b acc l w) (h1 : Lib.IsBuilderF 40 5 w0.heap.size b (Lib.byteCells acc1) w1) (h2 : Below w0.heap.size w w1) (h3 : Lib.OthersKept 5 (some b) w w1) : impl_Execute.Inv w0 g b acc1 l w1 := by
  obtain ⟨g1, g2, A, c, g3, g4⟩ := h
  obtain ⟨cs, hb⟩ := builder_cells g2
  exact ⟨g1.trans h2, h1, A, c, blk_others g3 h3 hb (by decide) (by decide), R_others g4 h3 hb (by decide)⟩
theorem impl_Execute.lines_wrote {w0 w w1 : World} {g b : Nat} {acc : List UInt8} {l : List Int} {v : Value} {ls : List ByteArray} (h : impl_Execute.Inv w0 g b acc l w) (hp : Kd.R Kd.string 9 w w0.heap.size (fun _ => True) v ls) (h3 : Lib.OthersKept 5 (some b) w w1) : Kd.R Kd.string 9 w1 w0.heap.size (fun _ => True) v ls := by
  obtain ⟨g1, g2, _⟩ := h
  obtain ⟨cs, hb⟩ := builder_cells g2
  exact R_others hp h3 hb (by decide)
theorem impl_Execute.inv_below {w0 w w1 : World} {g b : Nat} {acc : List UInt8} {l : List Int} (h : impl_Execute.Inv w0 g b acc l w) (hb : Below w.heap.size w w1) : impl_Execute.Inv w0 g b acc l w1 := by
  obtain ⟨h1, h2, A, c, h3, h4⟩ := h
  exact ⟨below_step h1 hb, builder_below h2 hb, A, c, blk_below h3 hb, Kd.R_below h4 hb⟩
set_option maxHeartbeats 8000000 in
set_option maxRecDepth 100000 in
theorem impl_Execute.calls (k : Nat) (a0 r : ByteArray) (w : World) (h : impl_Execute.f k a0 = some r) (htab_ : TabW w) :
    Calls Tryz.prog 9 #[.string a0] w fun e w' => e = .returned (.string r) ∧ Below w.heap.size w w' := by
  have HTAB_ := Aside0.mk htab_
  clear htab_
  have HB := Aside0.mk (Below.refl w.heap.size w)
  unfold impl_Execute.f at h
  by_cases c0 : (a0.size : Int) > 600
  · rw [if_pos c0] at h
    have c0b0 : decide (600 < (a0.size : Int)) = true := decide_eq_true c0
    have c0b1 : decide (600 < a0.size) = true := decide_eq_true (by omega)
    clear c0
    obtain rfl := Option.some.inj h
    go_enter Tryz.func9, Tryz.ntmps9
    go_wp2
    go_ret
    exact ⟨rfl, HB.out⟩
  · rw [if_neg c0] at h
    have c0b0 : decide (600 < (a0.size : Int)) = false := decide_eq_false c0
    have c0b1 : decide (600 < a0.size) = false := decide_eq_false (by omega)
    clear c0
    obtain ⟨ps, h1, h⟩ := Option.bind_eq_some_iff.mp h
    have A1 := Aside0.mk h1
    clear h1
    by_cases c1 : 1 ≤ ps.length ∧ ps.length ≤ 8388608
    · rw [if_pos c1] at h
      obtain ⟨⟨acc1, l1⟩, h2, h⟩ := Option.bind_eq_some_iff.mp h
      obtain ⟨j, hj⟩ : ∃ j : Int, wrap64 ((ps.length : Int) - 1) = j := ⟨_, rfl⟩
      have hjw : IntKind.i64.wrap ((ps.length : Int) - 1) = j := (i64_w _).trans hj
      have hj1 : j = (ps.length : Int) - 1 := by
        rw [← hj]
        unfold wrap64
        omega
      obtain ⟨ls, hls⟩ : ∃ ls, ps.take (ps.length - 1) = ls := ⟨_, rfl⟩
      rw [hls] at h2
      have HLS := Aside0.mk (show ps.take j.toNat = ls by rw [← hls, hj1]; congr 1; omega)
      have HJ0 := Aside0.mk (show 0 ≤ j ∧ j ≤ (ps.length : Int) by omega)
      clear hj hj1 hls
      have A2 := Aside0.mk h2
      clear h2
      by_cases c2 : acc1.length ≤ 1048576
      · rw [if_pos c2] at h
        obtain ⟨t, h3, h⟩ := Option.bind_eq_some_iff.mp h
        have A3 := Aside0.mk h3
        clear h3
        by_cases c3 : t.size ≤ 100
        · rw [if_pos c3] at h
          have HE := Aside0.mk (Option.some.inj h)
          have C1 := Aside0.mk c1
          have C2 := Aside0.mk c2
          have C3 := Aside0.mk c3
          have hz1 : (9223372036854775807 < 7 + t.size) = False := eq_false (by omega)
          have hz2 : (9223372036854775807 < ((⟨#[115, 116, 105, 99, 107, 115, 32]⟩ : ByteArray) ++ t).size + 1) = False := eq_false (by rw [ByteArray.size_append, show (⟨#[115, 116, 105, 99, 107, 115, 32]⟩ : ByteArray).size = 7 from rfl]; omega)
          have hz3 : (9223372036854775807 < 7 + t.size + 1) = False := eq_false (by omega)
          clear h c1 c2 c3
          obtain ⟨acc0, hacc0⟩ : ∃ y_ : List UInt8, y_ = ([] : List UInt8) := ⟨_, rfl⟩
          obtain ⟨l0, hl0⟩ : ∃ y_ : List Int, y_ = ([3, 4, 5] : List Int) := ⟨_, rfl⟩
          have A2 : Aside0 (impl_Execute.l0 k ls acc0 l0 0 = some (acc1, l1)) := ⟨by rw [hacc0, hl0]; exact A2.out⟩
          have NA := Aside0.mk hacc0
          have NL := Aside0.mk hl0
          clear hacc0 hl0
          go_enter Tryz.func9, Tryz.ntmps9
          go_wp2_with (first
            | ((with_reducible refine gate_dst (N := 14) rfl ?_); refine Kd.R_lit (Kd.int .i64) _ 3 ?hg (N := 14) ?hd (xs := ([3, 4, 5] : List Int)) (inner := [.int .i64 3, .int .i64 4, .int .i64 5]) (ok := fun _ => True) (okp := fun _ => True) ?hr ?hp (fun _ hk => hk) trivial (Below.refl _ _) (Nat.le_refl _) (by simp) ?_; (case hd => rfl); (case hg => rfl); (case hr => first | (go_simp; done) | (go_simp; rfl)); (case hp => exact (Reps.one (show Kd.M (Kd.int .i64) _ _ _ 3 [.int .i64 3] from rfl) (Reps.one (show Kd.M (Kd.int .i64) _ _ _ 4 [.int .i64 4] from rfl) (Reps.one (show Kd.M (Kd.int .i64) _ _ _ 5 [.int .i64 5] from rfl) (Reps.none _ _))))); intro v14 w14 ho hb hg_ hnew_; clear hg_ hnew_; rw [← NL.out] at ho; have HO := Aside0.mk ho; have n1_ := Aside0.mk hb; clear HB; have HB := n1_; clear n1_ ho hb; obtain ⟨A14, c14, rfl⟩ := Kd.R_slice HO.out)
            | ((with_reducible refine gate_dst (N := 3) rfl ?_); refine box_event ?hg (N := 3) ?hd (cs := #[.slice none 0 0]) (t := 23) ?hr ?_; (case hd => rfl); (case hg => rfl); (case hr => first | (go_simp; done) | (go_simp; rfl)); intro g hg w3 hbox hb; have GE := Aside0.mk (show w.heap.size ≤ g by rw [hg]; exact HB.out.size); have n0_ := Aside0.mk (below_step HB.out hb); have n2_ := Aside0.mk (Kd.R_below HO.out hb); have BK := Aside0.mk hbox; have cg : _ = some _ := blk_cell hbox 0; have fg := blk_frozen hbox 0; clear hg hb hbox HB HO; have HB := n0_; have HO := n2_; clear n0_ n2_)
            | ((with_reducible refine gate_dst (N := 4) rfl ?_); refine box_event ?hg (N := 4) ?hd (cs := #[.pointer none, .slice none 0 0]) (t := 40) ?hr ?_; (case hd => rfl); (case hg => rfl); (case hr => first | (go_simp; done) | (go_simp; rfl)); intro b hg w4 hbox hb; have GB := Aside0.mk (show w.heap.size ≤ b by rw [hg]; exact (below_set HB.out GE.out).size); have HI : Aside0 (impl_Execute.Inv w g b acc0 l0 w4) := ⟨⟨below_step (below_set HB.out GE.out) hb, by rw [NA.out]; exact .inl ⟨GB.out, .slice none 0 0, hbox, World.ownsRowF_nil _ _ _ _, by simp [Value.ownBlock]⟩, A14, c14, blk_below (blk_put BK.out 0 _ rfl) hb, Kd.R_below (Kd.R_set HO.out BK.out (by decide) 0 _) hb⟩⟩; clear hg hb hbox HB HO BK cg fg)
            | (go_at_call 28; refine (strings_Split.calls a0 (⟨#[10]⟩ : ByteArray) ps _ A1.out).mono ?_; rintro e w2 ⟨v2, rfl, hr2, hb2⟩; have n0_ := Aside0.mk (impl_Execute.inv_below HI.out hb2); have n2_ := Aside0.mk (Kd.R_lower hr2 HI.out.1.size); clear HI hr2 hb2; have HI := n0_; have HP := n2_; clear n0_ n2_; obtain ⟨Ap, cp, rfl⟩ := Kd.R_slice HP.out; obtain ⟨i9, hi9, _, hsz9, _⟩ := info_parts info9; have hsl := (print_take_of (P := Tryz.prog) Value.string ByteArray.empty 41 9 .i64 Tryz.underlying41 hi9 hsz9 Ap cp ps j HJ0.out.1 HJ0.out.2 (Kd.R_reads' HP.out).2.1).1; rw [HLS.out] at hsl; have hp2 := Kd.R_take (m := j.toNat) HP.out (by have := HJ0.out.1; have := HJ0.out.2; omega); rw [HLS.out] at hp2; clear hi9 hsz9 HP; have HP := Aside0.mk hp2; clear hp2; obtain ⟨n9, hn9⟩ : ∃ n9 : Nat, n9 = j.toNat := ⟨_, rfl⟩; rw [← hn9] at HP; have hn9' : n9 = ls.length := (Kd.R_reads' HP.out).1; rw [hn9'] at HP; clear hn9 hn9'))
          go_loopg [23] k (fun kq v23 w' => ∃ (acc : List UInt8) (l : List Int) (i : Int), v23 = .int .i64 i ∧ Aside0 (impl_Execute.l0 kq ls acc l i = some (acc1, l1)) ∧ Aside0 (kq ≤ k) ∧ Aside0 (impl_Execute.Inv w g b acc l w') ∧ Aside0 (Kd.R Kd.string 9 w' w.heap.size (fun _ => True) (.slice Ap ls.length cp) ls))
          case atStart => exact ⟨acc0, l0, 0, (by first | rfl | (simp; done) | (simp [*]; done)), A2, ⟨Nat.le_refl _⟩, HI, HP⟩
          case round =>
            clear A2 HI HP hsl
            obtain ⟨acc, l, i, rfl, HA, HK, HI, HP⟩ := hrel
            obtain ⟨wo, rfl⟩ : ∃ x : World, x = wr := ⟨wr, rfl⟩
            cases gk with
            | zero => exact absurd HA.out (by simp [impl_Execute.l0])
            | succ k1 =>
              have H := HA.out
              clear HA
              rw [impl_Execute.l0] at H
              by_cases d1 : i < (ls.length : Int)
              · rw [if_pos d1] at H
                have d1b : decide (i < (ls.length : Int)) = true := decide_eq_true d1
                by_cases d2 : 0 ≤ i
                · rw [if_pos d2] at H
                  have d2b : decide (0 ≤ i) = true := decide_eq_true d2
                  obtain ⟨ad, ea, hx⟩ := Kd.at_string (Kd.R_reads' HP.out).2.2 i d2 d1
                  cases ea
                  have hlt := World.block_lt_of_cell? _ _ hx
                  obtain ⟨p, hp⟩ : ∃ x, x = rdOf ByteArray.empty ls i := ⟨_, rfl⟩
                  rw [← hp] at hx H
                  clear hp
                  have e1 := eq_true d1
                  have e2 := eq_true d2
                  clear d1 d2
                  by_cases d3 : p.size ≤ 4194304
                  · rw [if_pos d3] at H
                    by_cases d4 : acc.length ≤ 1048576
                    · rw [if_pos d4] at H
                      have D3 := Aside0.mk d3
                      have D4 := Aside0.mk d4
                      clear d3 d4
                      have hcut := strings_Cut.calls p
                      obtain ⟨⟨q1, q2, q3⟩, hq⟩ : ∃ q, strings_Cut.f p = q := ⟨_, rfl⟩
                      rw [hq] at H
                      simp only [hq] at hcut
                      have HCUT := Aside0.mk hcut
                      clear hq hcut
                      by_cases d5 : q3 = true
                      · rw [if_pos d5] at H
                        subst d5
                        obtain ⟨⟨s1, l2⟩, h5, H⟩ := Option.bind_eq_some_iff.mp H
                        simp only at h5 H
                        have A5 := Aside0.mk h5
                        clear h5
                        by_cases d6 : s1.size ≤ 4194304
                        · rw [if_pos d6] at H
                          have D6 := Aside0.mk d6
                          have hz5 : (9223372036854775807 < s1.size + 1) = False := eq_false (by omega)
                          obtain ⟨s2, hs2⟩ : ∃ s2, s2 = s1 ++ (⟨#[10]⟩ : ByteArray) := ⟨_, rfl⟩
                          rw [← hs2] at H
                          have HS2 := Aside0.mk hs2
                          have H' := Aside0.mk H
                          clear d6 hs2 H
                          go_wp2_with (first
                            | (go_at_call 29; refine (HCUT.out _ D3.out).mono ?_; rintro e w5 ⟨rfl, ⟨⟨n5, rfl⟩⟩⟩; have n0_ := Aside0.mk (impl_Execute.inv_below HI.out (pw_below_drewN (Below.refl _ _) n5)); have n1_ := Aside0.mk (Kd.R_drewN HP.out n5); clear HI HP; have HI := n0_; have HP := n1_; clear n0_ n1_; obtain ⟨A7, c7, HG7, HR7⟩ : ∃ A c, Aside0 ((wo.drewN n5).heap[g]? = some (.cells #[.slice A l.length c] 23 (0, 0))) ∧ Aside0 (Kd.R (Kd.int .i64) 3 (wo.drewN n5) w.heap.size (fun _ => True) (.slice A l.length c) l) := (by obtain ⟨_, _, A, c, h1, h2⟩ := HI.out; exact ⟨A, c, ⟨h1⟩, ⟨h2⟩⟩))
                            | (go_at_call 31; refine (impl_withRest.calls k1 w.heap.size g A7 c7 l q1 q2 s1 l2 _ HG7.out HR7.out GE.out (HTAB_.out.below HI.out.1) A5.out).mono ?_; rintro e w6 ⟨rfl, hr6⟩; have n0_ := Aside0.mk (impl_Execute.inv_ruled HI.out GE.out hr6); have n1_ := Aside0.mk (impl_Execute.lines_ruled HI.out HP.out hr6); clear HI HP HG7 HR7 hr6; have HI := n0_; have HP := n1_; clear n0_ n1_)
                            | (go_at_call 30; rw [← HS2.out]; refine (impl_Execute.write w.heap.size b acc s2 _ HI.out.2.1 (by have := D4.out; have := D6.out; rw [HS2.out, ByteArray.size_append, show (⟨#[10]⟩ : ByteArray).size = 1 from rfl]; omega) HI.out.1.size).mono ?_; rintro e w7 ⟨rfl, hi7, hb7, hk7⟩; have n0_ := Aside0.mk (impl_Execute.inv_wrote HI.out hi7 hb7 hk7); have n1_ := Aside0.mk (impl_Execute.lines_wrote HI.out HP.out hk7); clear HI HP hi7 hb7 hk7; have HI := n0_; have HP := n1_; clear n0_ n1_))
                          go_roundg k1
                          case measure => have := HK.out; omega
                          case rel => exact ⟨_, l2, wrap64 (i + 1), (by first | rfl | (simp; done) | (simp [*]; done)), H', ⟨by have := HK.out; omega⟩, HI, HP⟩
                        · rw [if_neg d6] at H
                          exact absurd H (by simp)
                      · rw [if_neg d5] at H
                        replace d5 := Bool.eq_false_iff.mpr d5
                        subst d5
                        obtain ⟨⟨s1, l2⟩, h5, H⟩ := Option.bind_eq_some_iff.mp H
                        simp only at h5 H
                        have A5 := Aside0.mk h5
                        clear h5
                        by_cases d6 : s1.size ≤ 4194304
                        · rw [if_pos d6] at H
                          have D6 := Aside0.mk d6
                          have hz5 : (9223372036854775807 < s1.size + 1) = False := eq_false (by omega)
                          obtain ⟨s2, hs2⟩ : ∃ s2, s2 = s1 ++ (⟨#[10]⟩ : ByteArray) := ⟨_, rfl⟩
                          rw [← hs2] at H
                          have HS2 := Aside0.mk hs2
                          have H' := Aside0.mk H
                          clear d6 hs2 H
                          go_wp2_with (first
                            | (go_at_call 29; refine (HCUT.out _ D3.out).mono ?_; rintro e w5 ⟨rfl, ⟨⟨n5, rfl⟩⟩⟩; have n0_ := Aside0.mk (impl_Execute.inv_below HI.out (pw_below_drewN (Below.refl _ _) n5)); have n1_ := Aside0.mk (Kd.R_drewN HP.out n5); clear HI HP; have HI := n0_; have HP := n1_; clear n0_ n1_; obtain ⟨A7, c7, HG7, HR7⟩ : ∃ A c, Aside0 ((wo.drewN n5).heap[g]? = some (.cells #[.slice A l.length c] 23 (0, 0))) ∧ Aside0 (Kd.R (Kd.int .i64) 3 (wo.drewN n5) w.heap.size (fun _ => True) (.slice A l.length c) l) := (by obtain ⟨_, _, A, c, h1, h2⟩ := HI.out; exact ⟨A, c, ⟨h1⟩, ⟨h2⟩⟩))
                            | (go_at_call 32; refine (impl_withoutRest.calls k1 w.heap.size g A7 c7 l q1 s1 l2 _ HG7.out HR7.out GE.out (HTAB_.out.below HI.out.1) A5.out).mono ?_; rintro e w6 ⟨rfl, hr6⟩; have n0_ := Aside0.mk (impl_Execute.inv_ruled HI.out GE.out hr6); have n1_ := Aside0.mk (impl_Execute.lines_ruled HI.out HP.out hr6); clear HI HP HG7 HR7 hr6; have HI := n0_; have HP := n1_; clear n0_ n1_)
                            | (go_at_call 30; rw [← HS2.out]; refine (impl_Execute.write w.heap.size b acc s2 _ HI.out.2.1 (by have := D4.out; have := D6.out; rw [HS2.out, ByteArray.size_append, show (⟨#[10]⟩ : ByteArray).size = 1 from rfl]; omega) HI.out.1.size).mono ?_; rintro e w7 ⟨rfl, hi7, hb7, hk7⟩; have n0_ := Aside0.mk (impl_Execute.inv_wrote HI.out hi7 hb7 hk7); have n1_ := Aside0.mk (impl_Execute.lines_wrote HI.out HP.out hk7); clear HI HP hi7 hb7 hk7; have HI := n0_; have HP := n1_; clear n0_ n1_))
                          go_roundg k1
                          case measure => have := HK.out; omega
                          case rel => exact ⟨_, l2, wrap64 (i + 1), (by first | rfl | (simp; done) | (simp [*]; done)), H', ⟨by have := HK.out; omega⟩, HI, HP⟩
                        · rw [if_neg d6] at H
                          exact absurd H (by simp)
                    · rw [if_neg d4] at H
                      exact absurd H (by simp)
                  · rw [if_neg d3] at H
                    exact absurd H (by simp)
                · rw [if_neg d2] at H
                  exact absurd H (by simp)
              · rw [if_neg d1] at H
                have d1b : decide (i < (ls.length : Int)) = false := decide_eq_false d1
                clear d1
                simp only [Option.some.injEq, Prod.mk.injEq] at H
                obtain ⟨rfl, rfl⟩ := H
                obtain ⟨A7, c7, HG7⟩ : ∃ A c, Aside0 (wo.heap[g]? = some (.cells #[.slice A l.length c] 23 (0, 0))) := (by obtain ⟨_, _, A, c, h1, h2⟩ := HI.out; exact ⟨A, c, ⟨h1⟩⟩)
                have cg : _ = some _ := blk_cell HG7.out 0
                obtain ⟨s2, hs2⟩ : ∃ s2, s2 = ((⟨#[115, 116, 105, 99, 107, 115, 32]⟩ : ByteArray) ++ t) ++ (⟨#[10]⟩ : ByteArray) := ⟨_, rfl⟩
                have HS2 := Aside0.mk hs2
                clear hs2
                go_wp2_with (first
                  | (go_at_call 22; refine (strconv_Itoa.calls (l.length : Int) t _ A3.out (HTAB_.out.below HI.out.1)).mono ?_; rintro e w8 ⟨rfl, hb8⟩; have n0_ := Aside0.mk (impl_Execute.inv_below HI.out hb8); clear HI hb8; have HI := n0_; clear n0_)
                  | (go_at_call 30; rw [← HS2.out]; refine (impl_Execute.write w.heap.size b acc s2 _ HI.out.2.1 (by have := C2.out; have := C3.out; rw [HS2.out, ByteArray.size_append, ByteArray.size_append, show (⟨#[10]⟩ : ByteArray).size = 1 from rfl, show (⟨#[115, 116, 105, 99, 107, 115, 32]⟩ : ByteArray).size = 7 from rfl]; omega) HI.out.1.size).mono ?_; rintro e w9 ⟨rfl, hi9, hb9, hk9⟩; have n0_ := Aside0.mk (impl_Execute.inv_wrote HI.out hi9 hb9 hk9); clear HI hi9 hb9 hk9; have HI := n0_; clear n0_)
                  | (go_at_call 33; refine (Go.Proofs.YtcmpkabpmmmhoaaGreatDoor.Shelf.Tryz.Builder_String_any_k w.heap.size b _ _ HI.out.2.1 HI.out.1.size).mono ?_; rintro e w10 ⟨rfl, hi10, hb10, hk10⟩; have HB2 := Aside0.mk (HI.out.1.trans hb10); clear HI hi10 hb10 hk10))
                go_ret
                exact ⟨(by rw [← HE.out, HS2.out]; rfl), HB2.out⟩
        · rw [if_neg c3] at h
          exact absurd h (by simp)
      · rw [if_neg c2] at h
        exact absurd h (by simp)
    · rw [if_neg c1] at h
      exact absurd h (by simp)

end Go.Proofs.YtcmpkabpmmmhoaaGreatDoor.PFnExecuteEnds
