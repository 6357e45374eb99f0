/- Written by a program of this claim out of the translation: plain Lean functions and their contracts; what is proved: each Go function of this text comes to what its Lean function says. -/
import Derived.Test.YthgphegpkjngaaaPFnPartMostx0
import Derived.Test.YthgphegpkjngaaaPFnPartMostx1
import Derived.Test.YthgphegpkjngaaaPFnPartMostx2
namespace Go.Proofs.Ythgphegpkjngaaa.PFnPartMost
open Go.RowKit Go.Proofs.YthgphegpkjngaaaW.PrintWords Go.Proofs.YthgphegpkjngaaaW.PrintLast Go.Proofs.YthgphegpkjngaaaW.PrintMore
attribute [local go_sem] max2_int min2_int max_two min_two max_three min_three max_four min_four   -- for this text's walks alone
set_option linter.unusedVariables false
set_option linter.unusedSimpArgs false

/-! ### impl_parts: function 24, by hand -/
/-- Mode 0: a call of the inner function; mode 1: its loop, at a number; mode 2: that number is put behind the list. -/
def impl_parts.t {S : Type} (step : S → List Int → Option S) : Nat → Nat → List Int → List Int → Int → Int → S → Option S
  | 0, _, _, _, _, _, _ => none
  | k + 1, 0, a, l, m, _, s => if (l.length : Int) = (a.length : Int) then ((impl_partsFit.f k a l m).bind fun b => if b = true then step s l else some s) else impl_parts.t step k 1 a l m (-1) s
  | k + 1, 1, a, l, m, i, s => if i ≤ m then (if 0 ≤ i then ((impl_countOf.f k l i).bind fun c => if c = 3 then impl_parts.t step k 1 a l m (wrap64 (i + 1)) s else impl_parts.t step k 2 a l m i s) else impl_parts.t step k 2 a l m i s) else some s
  | k + 1, _, a, l, m, i, s => if l.length < 1000 then ((if i = m then impl_parts.t step k 0 a (l ++ [i]) (wrap64 (m + 1)) 0 s else impl_parts.t step k 0 a (l ++ [i]) m 0 s).bind fun s' => impl_parts.t step k 1 a l m (wrap64 (i + 1)) s') else none
def impl_parts.f {S : Type} (step : S → List Int → Option S) (k : Nat) (a : List Int) (s : S) : Option S := if a.length ≤ 1000 then impl_parts.t step k 0 a [] 0 0 s else none
theorem impl_parts.t0 {S : Type} (step : S → List Int → Option S) (k : Nat) (a l : List Int) (m i : Int) (s : S) : impl_parts.t step (k + 1) 0 a l m i s = if (l.length : Int) = (a.length : Int) then ((impl_partsFit.f k a l m).bind fun b => if b = true then step s l else some s) else impl_parts.t step k 1 a l m (-1) s := rfl
theorem impl_parts.t1 {S : Type} (step : S → List Int → Option S) (k : Nat) (a l : List Int) (m i : Int) (s : S) : impl_parts.t step (k + 1) 1 a l m i s = if i ≤ m then (if 0 ≤ i then ((impl_countOf.f k l i).bind fun c => if c = 3 then impl_parts.t step k 1 a l m (wrap64 (i + 1)) s else impl_parts.t step k 2 a l m i s) else impl_parts.t step k 2 a l m i s) else some s := rfl
theorem impl_parts.t2 {S : Type} (step : S → List Int → Option S) (k d : Nat) (a l : List Int) (m i : Int) (s : S) : impl_parts.t step (k + 1) (d + 2) a l m i s = if l.length < 1000 then ((if i = m then impl_parts.t step k 0 a (l ++ [i]) (wrap64 (m + 1)) 0 s else impl_parts.t step k 0 a (l ++ [i]) m 0 s).bind fun s' => impl_parts.t step k 1 a l m (wrap64 (i + 1)) s') else none := rfl
theorem impl_parts.mono_t {S : Type} {st st' : S → List Int → Option S} (hst : ∀ s l, LeO (st s l) (st' s l)) : ∀ k d y0 y1 y2 y3 y4, LeO (impl_parts.t st k d y0 y1 y2 y3 y4) (impl_parts.t st' (k + 1) d y0 y1 y2 y3 y4)
  | 0, _, _, _, _, _, _ => fun r h => by simp [impl_parts.t] at h
  | k + 1, d, y0, y1, y2, y3, y4 => by
    have ih := impl_parts.mono_t hst k
    have all : ∀ d, LeO (impl_parts.t st (k + 1) d y0 y1 y2 y3 y4) (impl_parts.t st' (k + 1 + 1) d y0 y1 y2 y3 y4) := by
      intro d
      match d with
      | 0 => rw [impl_parts.t0, impl_parts.t0]; exact LeO.ite (LeO.bind (impl_partsFit.mono _ _ _ _) (fun _ => LeO.ite (hst _ _) (LeO.refl _))) (ih _ _ _ _ _ _)
      | 1 => rw [impl_parts.t1, impl_parts.t1]; exact LeO.ite (LeO.ite (LeO.bind (impl_countOf.mono _ _ _) (fun _ => LeO.ite (ih _ _ _ _ _ _) (ih _ _ _ _ _ _))) (ih _ _ _ _ _ _)) (LeO.refl _)
      | d + 2 => rw [impl_parts.t2, impl_parts.t2]; exact LeO.ite (LeO.bind (LeO.ite (ih _ _ _ _ _ _) (ih _ _ _ _ _ _)) (fun _ => ih _ _ _ _ _ _)) (LeO.refl _)
    exact all d
theorem impl_parts.mono {S : Type} {st st' : S → List Int → Option S} (hst : ∀ s l, LeO (st s l) (st' s l)) (a : List Int) (s : S) (k : Nat) : LeO (impl_parts.f st k a s) (impl_parts.f st' (k + 1) a s) := by
  unfold impl_parts.f
  exact LeO.ite (impl_parts.mono_t hst k _ _ _ _ _ _) (LeO.refl _)
/-- What holds of the world between the steps: the list's own box and row, the boxes of the argument, of the function that is told and of the inner one; the state, and the blocks that it keeps: none of them is the list's. -/
structure impl_parts.I {S : Type} (K : Nat) (caps : Array Value) (A0 : Option Addr) (n0 c0 B0 B1 gl ga gt gy : Nat) (R : S → (Nat → Prop) → World → Prop) (w0 w : World) (l : List Int) (s : S) : Prop where
  row : ∃ A c, w.heap[gl]? = some (.cells #[.slice A l.length c] 23 (0, 0)) ∧ l.length ≤ c ∧ ∃ M : Nat → Prop, Kd.R (Kd.int .i64) 3 w B1 (fun k => ¬ M k) (.slice A l.length c) l ∧ R s M w ∧ ∀ k, M k → k < w.heap.size ∧ k ≠ gl
  arg : w.heap[ga]? = some (.cells #[.slice A0 n0 c0] 23 (0, 0))
  tel : w.heap[gt]? = some (.cells #[.func (.func K) #[] caps] 40 (0, 0))
  try_ : w.heap[gy]? = some (.cells #[.func (.func 48) #[] #[.pointer (some ⟨gl, 0, none⟩), .pointer (some ⟨ga, 0, none⟩), .pointer (some ⟨gt, 0, none⟩), .pointer (some ⟨gy, 0, none⟩)]] 49 (0, 0))
  low : Below B0 w0 w
  siz : B1 ≤ w.heap.size
section
variable {S : Type} {K : Nat} {caps : Array Value} {A0 : Option Addr} {n0 c0 B0 B1 gl ga gt gy : Nat} {R : S → (Nat → Prop) → World → Prop} {w0 w w1 : World} {l : List Int} {s s' : S}
theorem impl_parts.I.below (h : impl_parts.I K caps A0 n0 c0 B0 B1 gl ga gt gy R w0 w l s) (hmove : ∀ s M w1 w2, R s M w1 → Below B1 w1 w2 → (∀ k, M k → w2.heap[k]? = w1.heap[k]?) → R s M w2) (hB : B0 ≤ B1) (hb : Below w.heap.size w w1) : impl_parts.I K caps A0 n0 c0 B0 B1 gl ga gt gy R w0 w1 l s := by
  obtain ⟨⟨A, c, h1, h2, M, h3, hs, hm⟩, ha, ht, hy, hl, hz⟩ := h
  exact ⟨⟨A, c, blk_below h1 hb, h2, M, Kd.R_below h3 hb, hmove _ _ _ _ hs (Below.mono hb hz) (fun k hk => hb.block k (hm k hk).1), fun k hk => ⟨Nat.lt_of_lt_of_le (hm k hk).1 hb.size, (hm k hk).2⟩⟩, blk_below ha hb, blk_below ht hb, blk_below hy hb, hl.trans (Below.mono hb (Nat.le_trans hB hz)), Nat.le_trans hz hb.size⟩
theorem impl_parts.I.told {M : Nat → Prop} {A : Option Addr} {c : Nat} (q1 : w.heap[gl]? = some (.cells #[.slice A l.length c] 23 (0, 0))) (q2 : l.length ≤ c) (q3 : Kd.R (Kd.int .i64) 3 w B1 (fun k => ¬ M k) (.slice A l.length c) l) (hm : ∀ k, M k → k < w.heap.size ∧ k ≠ gl) (h : impl_parts.I K caps A0 n0 c0 B0 B1 gl ga gt gy R w0 w l s) (h1 : B1 ≤ gl) (h2 : B1 ≤ ga) (h3 : B1 ≤ gt) (h4 : B1 ≤ gy) (hs : ∃ M', R s' M' w1 ∧ ∀ k, M' k → (M k ∨ w.heap.size ≤ k) ∧ k < w1.heap.size) (hb : Below B0 w w1) (hk : ∀ k, B1 ≤ k → k < w.heap.size → w1.heap[k]? = w.heap[k]?) : impl_parts.I K caps A0 n0 c0 B0 B1 gl ga gt gy R w0 w1 l s' := by
  obtain ⟨_, ha, ht, hy, hl, hz⟩ := h
  obtain ⟨M', hs, hm'⟩ := hs
  refine ⟨⟨A, c, (hk _ h1 (blk_lt q1)).trans q1, q2, M', Kd.R_mono (Kd.R_step (Kd.R_bound q3) (fun k h _ => hk k h.2.1 h.2.2.1)) (fun k hk hq => ?_), hs, fun k hq => ⟨(hm' k hq).2, fun he => ?_⟩⟩, (hk _ h2 (blk_lt ha)).trans ha, (hk _ h3 (blk_lt ht)).trans ht, (hk _ h4 (blk_lt hy)).trans hy, hl.trans hb, Nat.le_trans hz hb.size⟩
  · rcases (hm' k hq).1 with h | h
    · exact hk.1 h
    · have := hk.2.2.1
      omega
  · have := blk_lt q1
    rcases (hm' k hq).1 with h | h
    · exact (hm k h).2 he
    · omega
/-- The list's box is written: a row over it stands in the world as it is. -/
theorem impl_parts.I.put {v : Value} (h : w.heap[gl]? = some (.cells #[v] 23 (0, 0))) (ha : w.heap[ga]? = some (.cells #[.slice A0 n0 c0] 23 (0, 0))) (hga : ga ≠ gl)
    (ht : w.heap[gt]? = some (.cells #[.func (.func K) #[] caps] 40 (0, 0)))
    (hy : w.heap[gy]? = some (.cells #[.func (.func 48) #[] #[.pointer (some ⟨gl, 0, none⟩), .pointer (some ⟨ga, 0, none⟩), .pointer (some ⟨gt, 0, none⟩), .pointer (some ⟨gy, 0, none⟩)]] 49 (0, 0)))
    (hmove : ∀ s M w1 w2, R s M w1 → Below B1 w1 w2 → (∀ k, M k → w2.heap[k]? = w1.heap[k]?) → R s M w2) {M : Nat → Prop} (hs : R s M w) (hm : ∀ k, M k → k < w.heap.size ∧ k ≠ gl) (hl : Below B0 w0 w) (hz : B1 ≤ w.heap.size) (hg : B1 ≤ gl) (hB : B0 ≤ B1)
    {A : Option Addr} {c : Nat} (hc : l.length ≤ c) (hr : Kd.R (Kd.int .i64) 3 w B1 (fun k => ¬ M k) (.slice A l.length c) l) : impl_parts.I K caps A0 n0 c0 B0 B1 gl ga gt gy R w0 (w.setCell ⟨gl, 0, none⟩ (.slice A l.length c)) l s := by
  have b1 : Below B1 w (w.setCell ⟨gl, 0, none⟩ (.slice A l.length c)) := (Below.refl _ _).setCell hg _
  have n1 : gt ≠ gl := blk_ne ht h (by decide)
  have n2 : gy ≠ gl := blk_ne hy h (by decide)
  exact ⟨⟨A, c, blk_put h 0 _ rfl, hc, M, Kd.R_set hr h (by decide) 0 _, hmove _ _ _ _ hs b1 (fun k hk => Below.heap_setCell _ _ _ k (hm k hk).2), fun k hk => ⟨by simpa [World.setCell] using (hm k hk).1, (hm k hk).2⟩⟩, blk_far ha hga _, blk_far ht n1 _, blk_far hy n2 _, hl.trans (Below.mono b1 hB), by simpa [World.setCell] using hz⟩
theorem impl_parts.I.state (h : impl_parts.I K caps A0 n0 c0 B0 B1 gl ga gt gy R w0 w l s) : ∃ M, R s M w := by
  obtain ⟨⟨A, c, _, _, M, _, hs, _⟩, _⟩ := h
  exact ⟨M, hs⟩
end
set_option maxHeartbeats 8000000 in
set_option maxRecDepth 100000 in
theorem impl_parts.tries {S : Type} (step : S → List Int → Option S) (K : Nat) (fn : Func) (hK : Try.prog.funcs[K]? = some fn) (hKn : (fn.name == "runtime.NumGoroutine") = false) (hKb : fn.body.isSome = true) (caps : Array Value) (a : List Int) (A0 : Option Addr) (c0 B0 B1 gl ga gt gy : Nat) (R : S → (Nat → Prop) → World → Prop) (w0 : World)
    (hmove : ∀ s M w1 w2, R s M w1 → Below B1 w1 w2 → (∀ k, M k → w2.heap[k]? = w1.heap[k]?) → R s M w2)
    (htell : ∀ s s' M xs A c w1, R s M w1 → (∀ k, M k → k < w1.heap.size) → B1 ≤ w1.heap.size → Kd.C (Kd.int .i64) w1 A xs.length xs → xs.length ≤ c → step s xs = some s' → Calls Try.prog K (#[.slice A xs.length c] ++ caps) w1 fun e w2 => e = .returned (.tuple #[]) ∧ (∃ M', R s' M' w2 ∧ ∀ k, M' k → (M k ∨ w1.heap.size ≤ k) ∧ k < w2.heap.size) ∧ Below B0 w1 w2 ∧ ∀ k, B1 ≤ k → k < w1.heap.size → w2.heap[k]? = w1.heap[k]?)
    (h1 : B1 ≤ gl) (h2 : B1 ≤ ga) (h3 : B1 ≤ gt) (h4 : B1 ≤ gy) (h5 : ga ≠ gl) (hB : B0 ≤ B1) (hr0 : ∀ w', Below B0 w0 w' → Kd.C (Kd.int .i64) w' A0 a.length a) (hc0 : a.length ≤ c0) :
    ∀ (k : Nat) (l : List Int) (m : Int) (s s' : S) (w : World), impl_parts.t step k 0 a l m 0 s = some s' → impl_parts.I K caps A0 a.length c0 B0 B1 gl ga gt gy R w0 w l s →
    Calls Try.prog 48 #[.int .i64 m, .pointer (some ⟨gl, 0, none⟩), .pointer (some ⟨ga, 0, none⟩), .pointer (some ⟨gt, 0, none⟩), .pointer (some ⟨gy, 0, none⟩)] w fun e w' => e = .returned (.tuple #[]) ∧ impl_parts.I K caps A0 a.length c0 B0 B1 gl ga gt gy R w0 w' l s' := by
  have HM := Aside0.mk hmove
  have HT := Aside0.mk htell
  have HG := Aside0.mk (And.intro h1 (And.intro h2 (And.intro h3 (And.intro h4 (And.intro h5 (And.intro hB hc0))))))
  have HKn := Aside0.mk (And.intro hK (And.intro hKn hKb))
  have HR := Aside0.mk hr0
  clear hmove htell h1 h2 h3 h4 h5 hB hc0 hK hKn hKb hr0
  intro k
  induction k using Nat.strongRecOn with
  | ind k ih0 =>
  intro l m s s' w h hI
  have IH := Aside0.mk ih0
  clear ih0
  have HI := Aside0.mk hI
  clear hI
  cases k with
  | zero => simp [impl_parts.t] at h
  | succ k =>
    rw [impl_parts.t0] at h
    by_cases h0 : (l.length : Int) = (a.length : Int)
    · rw [if_pos h0] at h
      have e0 : ((l.length : Int) == (a.length : Int)) = true := beq_iff_eq.mpr h0
      clear h0
      obtain ⟨b, hb, h⟩ := Option.bind_eq_some_iff.mp h
      have HF := Aside0.mk hb
      clear hb
      obtain ⟨⟨A, c, g1, g2, M, g3, gs_, gm_⟩, ga_, gt_, gy_, gl_, gz_⟩ := HI.out
      have GM := Aside0.mk gm_
      clear gm_
      have cl : _ = some _ := blk_cell g1 0
      have fl := blk_frozen g1 0
      have ca : _ = some _ := blk_cell ga_ 0
      have ct : _ = some _ := blk_cell gt_ 0
      have cy : _ = some _ := blk_cell gy_ 0

      have GR := Aside0.mk (Kd.R_reads' g3).2.2
      have GC := Aside0.mk g2
      have GB := Aside0.mk gl_
      clear g1 g2 g3 ga_ gt_ gy_ gs_ gl_ gz_
      by_cases hb : b = true
      · subst hb
        rw [if_pos rfl] at h
        have H := Aside0.mk h
        clear h
        go_enter Try.func48, Try.ntmps48
        go_wp2_with (first
          | (go_at_call 49; refine (impl_partsFit.calls k _ _ a _ _ l m true _ (HR.out _ GB.out) HG.out.2.2.2.2.2.2 GR.out GC.out HF.out).mono ?_; rintro e w1 ⟨rfl, hb⟩; have HI2 := Aside0.mk (HI.out.below HM.out HG.out.2.2.2.2.2.1 hb); clear hb; obtain ⟨⟨A', c', q1, q2, M2, q3, qs, qm⟩, qa, qt, qy, ql, qz⟩ := HI2.out; have GQ := Aside0.mk (And.intro q1 (And.intro q2 (And.intro q3 qm))); have GR2 := Aside0.mk (Kd.R_reads' q3).2.2; have GC2 := Aside0.mk q2; have GZ2 := Aside0.mk qz; have GS2 := Aside0.mk qs; have dl : _ = some _ := blk_cell q1 0; have dt : _ = some _ := blk_cell qt 0; clear q1 q2 q3 qm qa qt qy qs ql qz))
        rw [enters_ HKn.out.1 HKn.out.2.1 HKn.out.2.2, Oper.upon_enter]
        refine (HT.out s s' M2 l A' c' w1 GS2.out (fun k hk => (GQ.out.2.2.2 k hk).1) GZ2.out GR2.out GC2.out H.out).mono ?_
        rintro e w2 ⟨rfl, hs2, hb2, hk2⟩
        have HI3 := Aside0.mk (impl_parts.I.told GQ.out.1 GQ.out.2.1 GQ.out.2.2.1 GQ.out.2.2.2 HI2.out HG.out.1 HG.out.2.1 HG.out.2.2.1 HG.out.2.2.2.1 hs2 hb2 hk2)
        clear hs2 hb2 hk2
        go_wp2
        refine bodyPost_ret (results_none rfl _ _ _) rfl ?_
        exact ⟨rfl, HI3.out⟩
      · replace hb := Bool.eq_false_iff.mpr hb
        subst hb
        rw [if_neg (by decide)] at h
        obtain rfl := Option.some.inj h
        clear h
        go_enter Try.func48, Try.ntmps48
        go_wp2_with (first
          | (go_at_call 49; refine (impl_partsFit.calls k _ _ a _ _ l m false _ (HR.out _ GB.out) HG.out.2.2.2.2.2.2 GR.out GC.out HF.out).mono ?_; rintro e w1 ⟨rfl, hb⟩; have HI2 := Aside0.mk (HI.out.below HM.out HG.out.2.2.2.2.2.1 hb); clear hb))
        refine bodyPost_ret (results_none rfl _ _ _) rfl ?_
        exact ⟨rfl, HI2.out⟩
    · rw [if_neg h0] at h
      have e0 : ((l.length : Int) == (a.length : Int)) = false := beq_eq_false_iff_ne.mpr h0
      clear h0
      obtain ⟨⟨A, c, g1, g2, M, g3, gs_, gm_⟩, ga_, gt_, gy_, gl_, gz_⟩ := HI.out
      have GM := Aside0.mk gm_
      clear gm_
      have cl : _ = some _ := blk_cell g1 0
      have fl := blk_frozen g1 0
      have ca : _ = some _ := blk_cell ga_ 0
      have ct : _ = some _ := blk_cell gt_ 0
      have cy : _ = some _ := blk_cell gy_ 0

      clear g1 g2 g3 ga_ gt_ gy_ gs_ gl_ gz_
      have H := Aside0.mk h
      clear h
      go_enter Try.func48, Try.ntmps48
      go_wp2
      go_loopg [6] k (fun kq v6 w' => ∃ (i : Int) (s1 : S), v6 = .int .i64 i ∧ Aside0 (impl_parts.t step kq 1 a l m i s1 = some s') ∧ Aside0 (kq ≤ k) ∧ Aside0 (impl_parts.I K caps A0 a.length c0 B0 B1 gl ga gt gy R w0 w' l s1))
      case atStart => exact ⟨-1, s, (by first | rfl | (simp; done) | (simp [*]; done)), H, ⟨Nat.le_refl _⟩, HI⟩
      case round =>
        clear H HI cl fl ca ct cy
        try clear e0
        obtain ⟨i, s1, rfl, HA, HK, HI⟩ := hrel
        cases gk with
        | zero => exact absurd HA.out (by simp [impl_parts.t])
        | succ k1 =>
          have h := HA.out
          clear HA
          rw [impl_parts.t1] at h
          obtain ⟨⟨A, c, g1, g2, M, g3, gs_, gm_⟩, ga_, gt_, gy_, gl_, gz_⟩ := HI.out
          have GM := Aside0.mk gm_
          clear gm_
          have cl : _ = some _ := blk_cell g1 0
          have fl := blk_frozen g1 0
          have ca : _ = some _ := blk_cell ga_ 0
          have ct : _ = some _ := blk_cell gt_ 0
          have cy : _ = some _ := blk_cell gy_ 0

          have GR := Aside0.mk (Kd.R_reads' g3).2.2
          have GC := Aside0.mk g2
          have GI := Aside0.mk (And.intro g1 (And.intro g3 (And.intro ga_ (And.intro gt_ (And.intro gy_ (And.intro gs_ (And.intro gl_ gz_)))))))
          have E1 := Aside0.mk (Kd.R_ne g3 g1 (by decide))
          have E2 := Aside0.mk (Kd.R_ne g3 ga_ (by decide))
          have E3 := Aside0.mk (Kd.R_ne g3 gt_ (by decide))
          have E4 := Aside0.mk (Kd.R_ne g3 gy_ (by decide))
          clear g1 g2 g3 ga_ gt_ gy_ gs_ gl_ gz_
          by_cases c1 : i ≤ m
          · rw [if_pos c1] at h
            have c1b : decide (i ≤ m) = true := decide_eq_true c1
            clear c1
            by_cases c2 : 0 ≤ i
            · rw [if_pos c2] at h
              have c2b : decide (0 ≤ i) = true := decide_eq_true c2
              clear c2
              obtain ⟨c', hc', h⟩ := Option.bind_eq_some_iff.mp h
              have HC := Aside0.mk hc'
              clear hc'
              by_cases c3 : c' = 3
              · rw [if_pos c3] at h
                have c3b : (c' == 3) = true := beq_iff_eq.mpr c3
                clear c3
                have H := Aside0.mk h
                clear h
                go_wp2_with (first
                  | (go_at_call 50; refine (impl_countOf.calls k1 _ _ l i c' _ GR.out GC.out HC.out).mono ?_; rintro e w1 ⟨rfl, ⟨⟨nd, rfl⟩⟩⟩; have HI2 := Aside0.mk (HI.out.below HM.out HG.out.2.2.2.2.2.1 (pw_below_drewN (Below.refl _ _) nd))))
                go_roundg k1
                case measure => omega
                case rel => exact ⟨wrap64 (i + 1), s1, (by first | rfl | (simp; done) | (simp [*]; done)), H, ⟨by have := HK.out; omega⟩, HI2⟩
              · rw [if_neg c3] at h
                have c3b : (c' == 3) = false := beq_eq_false_iff_ne.mpr c3
                clear c3
                cases k1 with
                | zero => exact absurd h (by simp [impl_parts.t])
                | succ k2 =>
                rw [impl_parts.t2] at h
                by_cases c4 : l.length < 1000
                · rw [if_pos c4] at h
                  have LM := Aside0.mk c4
                  clear c4
                  obtain ⟨l1, hl1⟩ : ∃ y : List Int, y = l ++ [i] := ⟨_, rfl⟩
                  have Nl := Aside0.mk hl1
                  clear hl1
                  by_cases c5 : i = m
                  · rw [if_pos c5] at h
                    have c5b : (i == m) = true := beq_iff_eq.mpr c5
                    clear c5
                    obtain ⟨s2, h2, h⟩ := Option.bind_eq_some_iff.mp h
                    rw [← Nl.out] at h2
                    have H2 := Aside0.mk h2
                    have H := Aside0.mk h
                    clear h h2
                    go_wp2_with (first | (go_at_call 50; refine (impl_countOf.calls (k2 + 1) _ _ l i c' _ GR.out GC.out HC.out).mono ?_; rintro e wc ⟨rfl, ⟨⟨nd, rfl⟩⟩⟩) | ((with_reducible refine gate_builtin (b := .append) (xs := #[.tmp 32, .tmp 34]) rfl ?_); at_builtin; refine Kd.R_append (Kd.int .i64) (w0 := wr) B1 rfl (.tmp 32) (.tmp 34) 23 3 (.int .i64 0) 8 rfl Try.underlying23 info3 rfl (by decide) (by omega) (.slice A l.length c) l i [.int .i64 i] (fun k => ¬ M k) (fun _ => False) rfl rfl ?aP (fun _ hk => hk.elim) ?aF ?aO ?aB ?aS ?aL ?_; (case aP => exact rfl); (case aB => exact (by repeat (first | exact Below.refl _ _ | apply pw_below_drewN | apply below_drew1))); (case aF => exact (fun k hk hm => absurd (GM.out k hm).1 (Nat.not_lt.mpr hk))); (case aO => exact (by (with_reducible repeat (first | apply Kd.R_alloc | apply Kd.R_drewN | apply Kd.R_drew)); exact GI.out.2.1)); (case aS => exact GI.out.2.2.2.2.2.2.2); (case aL => have := LM.out; omega); intro v1 w1 ho hb hg hat; rw [← Nl.out] at ho; obtain ⟨A1, c1, rfl⟩ := Kd.R_slice ho; have q1 := blk_grown (w := (wr.drewN nd)) GI.out.1 hg E1.out; have dl : _ = some _ := blk_cell q1 0; have df := blk_frozen q1 0; have HI3 := Aside0.mk (impl_parts.I.put q1 (blk_grown (w := (wr.drewN nd)) GI.out.2.2.1 hg E2.out) HG.out.2.2.2.2.1 (blk_grown (w := (wr.drewN nd)) GI.out.2.2.2.1 hg E3.out) (blk_grown (w := (wr.drewN nd)) GI.out.2.2.2.2.1 hg E4.out) HM.out (HM.out _ M _ _ GI.out.2.2.2.2.2.1 hb (fun k hk => hg.block k (GM.out k hk).1 (fun he => GI.out.2.1.1 k he.symm hk))) (fun k hk => ⟨Nat.lt_of_lt_of_le (GM.out k hk).1 hb.size, (GM.out k hk).2⟩) (GI.out.2.2.2.2.2.2.1.trans (Below.mono hb HG.out.2.2.2.2.2.1)) (Nat.le_trans GI.out.2.2.2.2.2.2.2 hb.size) HG.out.1 HG.out.2.2.2.2.2.1 (Kd.R_reads' ho).2.1 ho); have dy : _ = some _ := blk_cell HI3.out.try_ 0; clear q1 ho hb hg hat))
                    refine (IH.out k2 (by have := HK.out; omega) l1 (wrap64 (m + 1)) s1 s2 _ H2.out HI3.out).mono ?_
                    rintro e w3 ⟨rfl, hI4⟩
                    have HI4 := Aside0.mk hI4
                    clear hI4 dl df dy HI3
                    obtain ⟨⟨A3, c3, r1, r2, M3, r3, rs, rm⟩, ra, rt, ry, rl, rz⟩ := HI4.out
                    have el : _ = some _ := blk_cell r1 0
                    have ef := blk_frozen r1 0
                    have hn : l1.length = l.length + 1 := by rw [Nl.out]; simp
                    have hw : IntKind.i64.wrap ((l1.length : Int) - 1) = (l.length : Int) := by rw [i64_w]; have := LM.out; unfold wrap64; omega
                    obtain ⟨i0, hi0, _, _, _⟩ := info_parts info3
                    have hcut : ∀ W : World, (Instr.slice 23 (.slice A3 l1.length c3) none (some (.int .i64 (l.length : Int))) none).run Try.prog W = .ok (.slice A3 l.length c3) W := fun W => by
                      have := cut_to (P := Try.prog) 23 3 .i64 Try.underlying23 hi0 A3 l1.length c3 (l.length : Int) (by omega) (by omega) r2 W
                      rwa [Int.toNat_natCast] at this
                    have HI5 := Aside0.mk (impl_parts.I.put (l := l) (A := A3) (c := c3) r1 ra HG.out.2.2.2.2.1 rt ry HM.out rs rm rl rz HG.out.1 HG.out.2.2.2.2.2.1 (by omega) (by
                      have := Kd.R_take (m := l.length) r3 (by omega)
                      rwa [Nl.out, List.take_left] at this))
                    have hwn := Aside0.mk hn
                    clear r1 r2 r3 rm ra rt ry rs rl rz HI4 hi0 hn
                    go_wp2
                    go_roundg k2
                    case measure => omega
                    case rel => exact ⟨wrap64 (i + 1), s2, (by first | rfl | (simp; done) | (simp [*]; done)), H, ⟨by have := HK.out; omega⟩, HI5⟩
                  · rw [if_neg c5] at h
                    have c5b : (i == m) = false := beq_eq_false_iff_ne.mpr c5
                    clear c5
                    obtain ⟨s2, h2, h⟩ := Option.bind_eq_some_iff.mp h
                    rw [← Nl.out] at h2
                    have H2 := Aside0.mk h2
                    have H := Aside0.mk h
                    clear h h2
                    go_wp2_with (first | (go_at_call 50; refine (impl_countOf.calls (k2 + 1) _ _ l i c' _ GR.out GC.out HC.out).mono ?_; rintro e wc ⟨rfl, ⟨⟨nd, rfl⟩⟩⟩) | ((with_reducible refine gate_builtin (b := .append) (xs := #[.tmp 32, .tmp 34]) rfl ?_); at_builtin; refine Kd.R_append (Kd.int .i64) (w0 := wr) B1 rfl (.tmp 32) (.tmp 34) 23 3 (.int .i64 0) 8 rfl Try.underlying23 info3 rfl (by decide) (by omega) (.slice A l.length c) l i [.int .i64 i] (fun k => ¬ M k) (fun _ => False) rfl rfl ?aP (fun _ hk => hk.elim) ?aF ?aO ?aB ?aS ?aL ?_; (case aP => exact rfl); (case aB => exact (by repeat (first | exact Below.refl _ _ | apply pw_below_drewN | apply below_drew1))); (case aF => exact (fun k hk hm => absurd (GM.out k hm).1 (Nat.not_lt.mpr hk))); (case aO => exact (by (with_reducible repeat (first | apply Kd.R_alloc | apply Kd.R_drewN | apply Kd.R_drew)); exact GI.out.2.1)); (case aS => exact GI.out.2.2.2.2.2.2.2); (case aL => have := LM.out; omega); intro v1 w1 ho hb hg hat; rw [← Nl.out] at ho; obtain ⟨A1, c1, rfl⟩ := Kd.R_slice ho; have q1 := blk_grown (w := (wr.drewN nd)) GI.out.1 hg E1.out; have dl : _ = some _ := blk_cell q1 0; have df := blk_frozen q1 0; have HI3 := Aside0.mk (impl_parts.I.put q1 (blk_grown (w := (wr.drewN nd)) GI.out.2.2.1 hg E2.out) HG.out.2.2.2.2.1 (blk_grown (w := (wr.drewN nd)) GI.out.2.2.2.1 hg E3.out) (blk_grown (w := (wr.drewN nd)) GI.out.2.2.2.2.1 hg E4.out) HM.out (HM.out _ M _ _ GI.out.2.2.2.2.2.1 hb (fun k hk => hg.block k (GM.out k hk).1 (fun he => GI.out.2.1.1 k he.symm hk))) (fun k hk => ⟨Nat.lt_of_lt_of_le (GM.out k hk).1 hb.size, (GM.out k hk).2⟩) (GI.out.2.2.2.2.2.2.1.trans (Below.mono hb HG.out.2.2.2.2.2.1)) (Nat.le_trans GI.out.2.2.2.2.2.2.2 hb.size) HG.out.1 HG.out.2.2.2.2.2.1 (Kd.R_reads' ho).2.1 ho); have dy : _ = some _ := blk_cell HI3.out.try_ 0; clear q1 ho hb hg hat))
                    refine (IH.out k2 (by have := HK.out; omega) l1 m s1 s2 _ H2.out HI3.out).mono ?_
                    rintro e w3 ⟨rfl, hI4⟩
                    have HI4 := Aside0.mk hI4
                    clear hI4 dl df dy HI3
                    obtain ⟨⟨A3, c3, r1, r2, M3, r3, rs, rm⟩, ra, rt, ry, rl, rz⟩ := HI4.out
                    have el : _ = some _ := blk_cell r1 0
                    have ef := blk_frozen r1 0
                    have hn : l1.length = l.length + 1 := by rw [Nl.out]; simp
                    have hw : IntKind.i64.wrap ((l1.length : Int) - 1) = (l.length : Int) := by rw [i64_w]; have := LM.out; unfold wrap64; omega
                    obtain ⟨i0, hi0, _, _, _⟩ := info_parts info3
                    have hcut : ∀ W : World, (Instr.slice 23 (.slice A3 l1.length c3) none (some (.int .i64 (l.length : Int))) none).run Try.prog W = .ok (.slice A3 l.length c3) W := fun W => by
                      have := cut_to (P := Try.prog) 23 3 .i64 Try.underlying23 hi0 A3 l1.length c3 (l.length : Int) (by omega) (by omega) r2 W
                      rwa [Int.toNat_natCast] at this
                    have HI5 := Aside0.mk (impl_parts.I.put (l := l) (A := A3) (c := c3) r1 ra HG.out.2.2.2.2.1 rt ry HM.out rs rm rl rz HG.out.1 HG.out.2.2.2.2.2.1 (by omega) (by
                      have := Kd.R_take (m := l.length) r3 (by omega)
                      rwa [Nl.out, List.take_left] at this))
                    have hwn := Aside0.mk hn
                    clear r1 r2 r3 rm ra rt ry rs rl rz HI4 hi0 hn
                    go_wp2
                    go_roundg k2
                    case measure => omega
                    case rel => exact ⟨wrap64 (i + 1), s2, (by first | rfl | (simp; done) | (simp [*]; done)), H, ⟨by have := HK.out; omega⟩, HI5⟩
                · rw [if_neg c4] at h
                  exact absurd h (by simp)
            · rw [if_neg c2] at h
              have c2b : decide (0 ≤ i) = false := decide_eq_false c2
              clear c2
              cases k1 with
              | zero => exact absurd h (by simp [impl_parts.t])
              | succ k2 =>
              rw [impl_parts.t2] at h
              by_cases c4 : l.length < 1000
              · rw [if_pos c4] at h
                have LM := Aside0.mk c4
                clear c4
                obtain ⟨l1, hl1⟩ : ∃ y : List Int, y = l ++ [i] := ⟨_, rfl⟩
                have Nl := Aside0.mk hl1
                clear hl1
                by_cases c5 : i = m
                · rw [if_pos c5] at h
                  have c5b : (i == m) = true := beq_iff_eq.mpr c5
                  clear c5
                  obtain ⟨s2, h2, h⟩ := Option.bind_eq_some_iff.mp h
                  rw [← Nl.out] at h2
                  have H2 := Aside0.mk h2
                  have H := Aside0.mk h
                  clear h h2
                  go_wp2_with (first | ((with_reducible refine gate_builtin (b := .append) (xs := #[.tmp 32, .tmp 34]) rfl ?_); at_builtin; refine Kd.R_append (Kd.int .i64) (w0 := wr) B1 rfl (.tmp 32) (.tmp 34) 23 3 (.int .i64 0) 8 rfl Try.underlying23 info3 rfl (by decide) (by omega) (.slice A l.length c) l i [.int .i64 i] (fun k => ¬ M k) (fun _ => False) rfl rfl ?aP (fun _ hk => hk.elim) ?aF ?aO ?aB ?aS ?aL ?_; (case aP => exact rfl); (case aB => exact (by repeat (first | exact Below.refl _ _ | apply pw_below_drewN | apply below_drew1))); (case aF => exact (fun k hk hm => absurd (GM.out k hm).1 (Nat.not_lt.mpr hk))); (case aO => exact (by (with_reducible repeat (first | apply Kd.R_alloc | apply Kd.R_drewN | apply Kd.R_drew)); exact GI.out.2.1)); (case aS => exact GI.out.2.2.2.2.2.2.2); (case aL => have := LM.out; omega); intro v1 w1 ho hb hg hat; rw [← Nl.out] at ho; obtain ⟨A1, c1, rfl⟩ := Kd.R_slice ho; have q1 := blk_grown (w := wr) GI.out.1 hg E1.out; have dl : _ = some _ := blk_cell q1 0; have df := blk_frozen q1 0; have HI3 := Aside0.mk (impl_parts.I.put q1 (blk_grown (w := wr) GI.out.2.2.1 hg E2.out) HG.out.2.2.2.2.1 (blk_grown (w := wr) GI.out.2.2.2.1 hg E3.out) (blk_grown (w := wr) GI.out.2.2.2.2.1 hg E4.out) HM.out (HM.out _ M _ _ GI.out.2.2.2.2.2.1 hb (fun k hk => hg.block k (GM.out k hk).1 (fun he => GI.out.2.1.1 k he.symm hk))) (fun k hk => ⟨Nat.lt_of_lt_of_le (GM.out k hk).1 hb.size, (GM.out k hk).2⟩) (GI.out.2.2.2.2.2.2.1.trans (Below.mono hb HG.out.2.2.2.2.2.1)) (Nat.le_trans GI.out.2.2.2.2.2.2.2 hb.size) HG.out.1 HG.out.2.2.2.2.2.1 (Kd.R_reads' ho).2.1 ho); have dy : _ = some _ := blk_cell HI3.out.try_ 0; clear q1 ho hb hg hat))
                  refine (IH.out k2 (by have := HK.out; omega) l1 (wrap64 (m + 1)) s1 s2 _ H2.out HI3.out).mono ?_
                  rintro e w3 ⟨rfl, hI4⟩
                  have HI4 := Aside0.mk hI4
                  clear hI4 dl df dy HI3
                  obtain ⟨⟨A3, c3, r1, r2, M3, r3, rs, rm⟩, ra, rt, ry, rl, rz⟩ := HI4.out
                  have el : _ = some _ := blk_cell r1 0
                  have ef := blk_frozen r1 0
                  have hn : l1.length = l.length + 1 := by rw [Nl.out]; simp
                  have hw : IntKind.i64.wrap ((l1.length : Int) - 1) = (l.length : Int) := by rw [i64_w]; have := LM.out; unfold wrap64; omega
                  obtain ⟨i0, hi0, _, _, _⟩ := info_parts info3
                  have hcut : ∀ W : World, (Instr.slice 23 (.slice A3 l1.length c3) none (some (.int .i64 (l.length : Int))) none).run Try.prog W = .ok (.slice A3 l.length c3) W := fun W => by
                    have := cut_to (P := Try.prog) 23 3 .i64 Try.underlying23 hi0 A3 l1.length c3 (l.length : Int) (by omega) (by omega) r2 W
                    rwa [Int.toNat_natCast] at this
                  have HI5 := Aside0.mk (impl_parts.I.put (l := l) (A := A3) (c := c3) r1 ra HG.out.2.2.2.2.1 rt ry HM.out rs rm rl rz HG.out.1 HG.out.2.2.2.2.2.1 (by omega) (by
                    have := Kd.R_take (m := l.length) r3 (by omega)
                    rwa [Nl.out, List.take_left] at this))
                  have hwn := Aside0.mk hn
                  clear r1 r2 r3 rm ra rt ry rs rl rz HI4 hi0 hn
                  go_wp2
                  go_roundg k2
                  case measure => omega
                  case rel => exact ⟨wrap64 (i + 1), s2, (by first | rfl | (simp; done) | (simp [*]; done)), H, ⟨by have := HK.out; omega⟩, HI5⟩
                · rw [if_neg c5] at h
                  have c5b : (i == m) = false := beq_eq_false_iff_ne.mpr c5
                  clear c5
                  obtain ⟨s2, h2, h⟩ := Option.bind_eq_some_iff.mp h
                  rw [← Nl.out] at h2
                  have H2 := Aside0.mk h2
                  have H := Aside0.mk h
                  clear h h2
                  go_wp2_with (first | ((with_reducible refine gate_builtin (b := .append) (xs := #[.tmp 32, .tmp 34]) rfl ?_); at_builtin; refine Kd.R_append (Kd.int .i64) (w0 := wr) B1 rfl (.tmp 32) (.tmp 34) 23 3 (.int .i64 0) 8 rfl Try.underlying23 info3 rfl (by decide) (by omega) (.slice A l.length c) l i [.int .i64 i] (fun k => ¬ M k) (fun _ => False) rfl rfl ?aP (fun _ hk => hk.elim) ?aF ?aO ?aB ?aS ?aL ?_; (case aP => exact rfl); (case aB => exact (by repeat (first | exact Below.refl _ _ | apply pw_below_drewN | apply below_drew1))); (case aF => exact (fun k hk hm => absurd (GM.out k hm).1 (Nat.not_lt.mpr hk))); (case aO => exact (by (with_reducible repeat (first | apply Kd.R_alloc | apply Kd.R_drewN | apply Kd.R_drew)); exact GI.out.2.1)); (case aS => exact GI.out.2.2.2.2.2.2.2); (case aL => have := LM.out; omega); intro v1 w1 ho hb hg hat; rw [← Nl.out] at ho; obtain ⟨A1, c1, rfl⟩ := Kd.R_slice ho; have q1 := blk_grown (w := wr) GI.out.1 hg E1.out; have dl : _ = some _ := blk_cell q1 0; have df := blk_frozen q1 0; have HI3 := Aside0.mk (impl_parts.I.put q1 (blk_grown (w := wr) GI.out.2.2.1 hg E2.out) HG.out.2.2.2.2.1 (blk_grown (w := wr) GI.out.2.2.2.1 hg E3.out) (blk_grown (w := wr) GI.out.2.2.2.2.1 hg E4.out) HM.out (HM.out _ M _ _ GI.out.2.2.2.2.2.1 hb (fun k hk => hg.block k (GM.out k hk).1 (fun he => GI.out.2.1.1 k he.symm hk))) (fun k hk => ⟨Nat.lt_of_lt_of_le (GM.out k hk).1 hb.size, (GM.out k hk).2⟩) (GI.out.2.2.2.2.2.2.1.trans (Below.mono hb HG.out.2.2.2.2.2.1)) (Nat.le_trans GI.out.2.2.2.2.2.2.2 hb.size) HG.out.1 HG.out.2.2.2.2.2.1 (Kd.R_reads' ho).2.1 ho); have dy : _ = some _ := blk_cell HI3.out.try_ 0; clear q1 ho hb hg hat))
                  refine (IH.out k2 (by have := HK.out; omega) l1 m s1 s2 _ H2.out HI3.out).mono ?_
                  rintro e w3 ⟨rfl, hI4⟩
                  have HI4 := Aside0.mk hI4
                  clear hI4 dl df dy HI3
                  obtain ⟨⟨A3, c3, r1, r2, M3, r3, rs, rm⟩, ra, rt, ry, rl, rz⟩ := HI4.out
                  have el : _ = some _ := blk_cell r1 0
                  have ef := blk_frozen r1 0
                  have hn : l1.length = l.length + 1 := by rw [Nl.out]; simp
                  have hw : IntKind.i64.wrap ((l1.length : Int) - 1) = (l.length : Int) := by rw [i64_w]; have := LM.out; unfold wrap64; omega
                  obtain ⟨i0, hi0, _, _, _⟩ := info_parts info3
                  have hcut : ∀ W : World, (Instr.slice 23 (.slice A3 l1.length c3) none (some (.int .i64 (l.length : Int))) none).run Try.prog W = .ok (.slice A3 l.length c3) W := fun W => by
                    have := cut_to (P := Try.prog) 23 3 .i64 Try.underlying23 hi0 A3 l1.length c3 (l.length : Int) (by omega) (by omega) r2 W
                    rwa [Int.toNat_natCast] at this
                  have HI5 := Aside0.mk (impl_parts.I.put (l := l) (A := A3) (c := c3) r1 ra HG.out.2.2.2.2.1 rt ry HM.out rs rm rl rz HG.out.1 HG.out.2.2.2.2.2.1 (by omega) (by
                    have := Kd.R_take (m := l.length) r3 (by omega)
                    rwa [Nl.out, List.take_left] at this))
                  have hwn := Aside0.mk hn
                  clear r1 r2 r3 rm ra rt ry rs rl rz HI4 hi0 hn
                  go_wp2
                  go_roundg k2
                  case measure => omega
                  case rel => exact ⟨wrap64 (i + 1), s2, (by first | rfl | (simp; done) | (simp [*]; done)), H, ⟨by have := HK.out; omega⟩, HI5⟩
              · rw [if_neg c4] at h
                exact absurd h (by simp)
          · rw [if_neg c1] at h
            have c1b : decide (i ≤ m) = false := decide_eq_false c1
            clear c1
            obtain rfl := Option.some.inj h
            go_wp2
            go_end0
            exact ⟨rfl, HI.out⟩
theorem impl_parts.heap_new {W : World} {o : Obj} {g : Nat} (h : g = W.heap.size) : (W.alloc o).heap[g]? = some o := by
  subst h
  exact heap_alloc_new W o
set_option maxHeartbeats 8000000 in
set_option maxRecDepth 100000 in
/-- All part lists, told one behind the other to a function value. -/
theorem impl_parts.callsM {S : Type} (step : S → List Int → Option S) (K : Nat) (fn : Func) (hK : Try.prog.funcs[K]? = some fn) (hKn : (fn.name == "runtime.NumGoroutine") = false) (hKb : fn.body.isSome = true) (caps : Array Value) (B0 : Nat) (R : S → (Nat → Prop) → World → Prop)
    (k : Nat) (A0 : Option Addr) (c0 : Nat) (a : List Int) (s0 s1 : S) (w : World)
    (hmove : ∀ s M w1 w2, R s M w1 → Below w.heap.size w1 w2 → (∀ k, M k → w2.heap[k]? = w1.heap[k]?) → R s M w2)
    (htell : ∀ s s' M xs A c w1, R s M w1 → (∀ k, M k → k < w1.heap.size) → w.heap.size ≤ w1.heap.size → Kd.C (Kd.int .i64) w1 A xs.length xs → xs.length ≤ c → step s xs = some s' → Calls Try.prog K (#[.slice A xs.length c] ++ caps) w1 fun e w2 => e = .returned (.tuple #[]) ∧ (∃ M', R s' M' w2 ∧ ∀ k, M' k → (M k ∨ w1.heap.size ≤ k) ∧ k < w2.heap.size) ∧ Below B0 w1 w2 ∧ ∀ k, w.heap.size ≤ k → k < w1.heap.size → w2.heap[k]? = w1.heap[k]?)
    (hB0 : B0 ≤ w.heap.size) (hr0 : ∀ w', Below B0 w w' → Kd.C (Kd.int .i64) w' A0 a.length a) (hc0 : a.length ≤ c0) (hs : R s0 (fun _ => False) w) (h : impl_parts.f step k a s0 = some s1) :
    Calls Try.prog 24 #[.slice A0 a.length c0, .func (.func K) #[] caps] w fun e w' => e = .returned (.tuple #[]) ∧ (∃ M, R s1 M w') ∧ Below B0 w w' := by
  unfold impl_parts.f at h
  by_cases hl : a.length ≤ 1000
  · rw [if_pos hl] at h
    have HT := Aside0.mk (impl_parts.tries step K fn hK hKn hKb caps a A0 c0 B0 w.heap.size (w.heap.size + 1 + 1 + 1) w.heap.size (w.heap.size + 1) (w.heap.size + 1 + 1 + 1 + 1) R w hmove htell (by omega) (by omega) (by omega) (by omega) (by omega) hB0 hr0 hc0 k [] 0 s0 s1)
    have H := Aside0.mk h
    have HM := Aside0.mk hmove
    have HS := Aside0.mk hs
    have HB0 := Aside0.mk hB0
    clear h hmove htell hB0 hr0 hc0 hs hK hKn hKb
    obtain ⟨i0, hi0, hz0, hsz0, hby0⟩ := info_parts info3
    have hmk : ∀ W : World, (Instr.makeSlice 23 (.int .i64 0) (.int .i64 (a.length : Int))).run Try.prog W = .ok (.slice (some ⟨W.heap.size, 0, none⟩) 0 a.length) (W.alloc (.cells (madeCells #[.int .i64 0] a.length) 3)) := fun W => by
      have := run_make (P := Try.prog) W 23 3 i0 (.int .i64 0) Try.underlying23 hi0 hz0 .i64 .i64 0 (a.length : Int) (by omega) (by omega) (by rw [hby0]; omega) (by omega)
      rwa [hsz0, Nat.mul_one, Int.toNat_natCast] at this
    clear hi0 hz0 hsz0 hby0
    have hmf : ∀ (fn : Fn) (first cap : Array Value) (w : World), (Instr.makeFunc fn first cap).run Try.prog w = .ok (.func fn first cap) w := fun _ _ _ _ => rfl
    have hsf : ∀ (w : World) (a : Addr) (fn : Fn) (first cap : Array Value), (Go.store a (.func fn first cap)).run Try.prog w = stored Try.prog w a (.func fn first cap) .plain := fun w a fn first cap => run_store _ w a _ _ rfl
    have HL := Aside0.mk hl
    clear hl
    have by_ : (((((w.alloc (Obj.cells #[.slice A0 a.length c0] 23)).alloc (Obj.cells #[.func (.func K) #[] caps] 40)).alloc (Obj.cells (madeCells #[.int .i64 0] a.length) 3)).alloc (Obj.cells #[.slice (some ⟨w.heap.size + 1 + 1, 0, none⟩) 0 a.length] 23)).alloc (Obj.cells #[.nilFunc] 49)).heap[w.heap.size + 1 + 1 + 1 + 1]? = some (Obj.cells #[.nilFunc] 49) := impl_parts.heap_new (by simp)
    have cy : _ = some _ := blk_cell by_ 0
    have fy := blk_frozen by_ 0
    have BY := Aside0.mk by_
    clear by_
    go_enter Try.func24, Try.ntmps24
    go_wp2_with fail
    have hb : Below w.heap.size w _ := below_alloc (below_alloc (below_alloc (below_alloc (below_alloc (Below.refl w.heap.size w) (Obj.cells #[.slice A0 a.length c0] 23)) (Obj.cells #[.func (.func K) #[] caps] 40)) (Obj.cells (madeCells #[.int .i64 0] a.length) 3)) (Obj.cells #[.slice (some ⟨w.heap.size + 1 + 1, 0, none⟩) 0 a.length] 23)) (Obj.cells #[.func (.func 48) #[] #[.pointer (some ⟨w.heap.size + 1 + 1 + 1, 0, none⟩), .pointer (some ⟨w.heap.size, 0, none⟩), .pointer (some ⟨w.heap.size + 1, 0, none⟩), .pointer (some ⟨w.heap.size + 1 + 1 + 1 + 1, 0, none⟩)]] 49)
    have hrow : Kd.R (Kd.int .i64) 3 (((w.alloc (Obj.cells #[.slice A0 a.length c0] 23)).alloc (Obj.cells #[.func (.func K) #[] caps] 40)).alloc (Obj.cells (madeCells #[.int .i64 0] a.length) 3)) w.heap.size (fun _ => True) (.slice (some ⟨w.heap.size + 1 + 1, 0, none⟩) ([] : List Int).length a.length) [] := by
      have := World.ownsRow_made (e := 3) (size := 1) (base := w.heap.size) ((w.alloc (Obj.cells #[.slice A0 a.length c0] 23)).alloc (Obj.cells #[.func (.func K) #[] caps] 40)) (madeCells #[.int .i64 0] a.length) a.length (by simp; omega) (by have := HL.out; unfold maxLen; omega) (by rw [size_madeCells]; omega)
      exact Kd.R_of_own (by have h2 := this; simp at h2; exact h2) (fun _ _ => trivial)
    refine (HT.out _ H.out ⟨⟨_, _, ?_, Nat.zero_le _, fun _ => False, Kd.R_mono (Kd.R_alloc (Kd.R_alloc hrow _) _) (fun _ _ h => h), HM.out _ _ _ _ HS.out hb (fun _ h => h.elim), fun _ h => h.elim⟩, ?_, ?_, ?_, Below.mono hb HB0.out, hb.size⟩).mono ?_
    · repeat (first | (refine impl_parts.heap_new ?_; simp; done) | refine blk_alloc ?_ _)
    · repeat (first | (refine impl_parts.heap_new ?_; simp; done) | refine blk_alloc ?_ _)
    · repeat (first | (refine impl_parts.heap_new ?_; simp; done) | refine blk_alloc ?_ _)
    · repeat (first | (refine impl_parts.heap_new ?_; simp; done) | refine blk_alloc ?_ _)
    rintro e w1 ⟨rfl, hI⟩
    have HI := Aside0.mk hI
    clear hI hb hrow
    go_wp2
    go_end0
    exact ⟨rfl, HI.out.state, HI.out.low⟩
  · rw [if_neg hl] at h
    exact absurd h (by simp)
/-- The same, where the state keeps no block of its own. -/
theorem impl_parts.calls {S : Type} (step : S → List Int → Option S) (K : Nat) (fn : Func) (hK : Try.prog.funcs[K]? = some fn) (hKn : (fn.name == "runtime.NumGoroutine") = false) (hKb : fn.body.isSome = true) (caps : Array Value) (B0 : Nat) (R : S → World → Prop)
    (k : Nat) (A0 : Option Addr) (c0 : Nat) (a : List Int) (s0 s1 : S) (w : World)
    (hmove : ∀ s w1 w2, R s w1 → Below w.heap.size w1 w2 → R s w2)
    (htell : ∀ s s' xs A c w1, R s w1 → w.heap.size ≤ w1.heap.size → Kd.C (Kd.int .i64) w1 A xs.length xs → xs.length ≤ c → step s xs = some s' → Calls Try.prog K (#[.slice A xs.length c] ++ caps) w1 fun e w2 => e = .returned (.tuple #[]) ∧ R s' w2 ∧ Below B0 w1 w2 ∧ ∀ k, w.heap.size ≤ k → k < w1.heap.size → w2.heap[k]? = w1.heap[k]?)
    (hB0 : B0 ≤ w.heap.size) (hr0 : ∀ w', Below B0 w w' → Kd.C (Kd.int .i64) w' A0 a.length a) (hc0 : a.length ≤ c0) (hs : R s0 w) (h : impl_parts.f step k a s0 = some s1) :
    Calls Try.prog 24 #[.slice A0 a.length c0, .func (.func K) #[] caps] w fun e w' => e = .returned (.tuple #[]) ∧ R s1 w' ∧ Below B0 w w' := by
  refine (impl_parts.callsM step K fn hK hKn hKb caps B0 (fun s M w => R s w ∧ ∀ k, ¬ M k) k A0 c0 a s0 s1 w (fun s M w1 w2 h1 h2 _ => ⟨hmove s w1 w2 h1.1 h2, h1.2⟩) ?_ hB0 hr0 hc0 ⟨hs, fun _ h => h⟩ h).mono ?_
  · intro s s' M xs A c w1 h1 _ h2 h3 h4 h5
    refine (htell s s' xs A c w1 h1.1 h2 h3 h4 h5).mono ?_
    rintro e w2 ⟨h1, h2, h3, h4⟩
    exact ⟨h1, ⟨fun _ => False, ⟨h2, fun _ h => h⟩, fun _ h => h.elim⟩, h3, h4⟩
  · rintro e w2 ⟨h1, ⟨M, h2, _⟩, h3⟩
    exact ⟨h1, h2, h3⟩

/-! ### slices_Max_int_int: function 32, by hand -/
def slices_Max_int_int.l0 : Nat → List Int → Int → Int → Option Int
  | 0, _, _, _ => none
  | k + 1, l, m, i => if i < (l.length : Int) then (if 0 ≤ i then slices_Max_int_int.l0 k l (mx m (rd l i)) (wrap64 (i + 1)) else none) else some m
def slices_Max_int_int.f (k : Nat) (l : List Int) : Option Int := if 0 < l.length then slices_Max_int_int.l0 k l (rd l 0) 1 else none
theorem slices_Max_int_int.mono_l : ∀ k, (∀ y0 y1 y2, LeO (slices_Max_int_int.l0 k y0 y1 y2) (slices_Max_int_int.l0 (k + 1) y0 y1 y2))
  | 0 => fun _ _ _ r h => by simp [slices_Max_int_int.l0] at h
  | k + 1 => by
    have ih0 := slices_Max_int_int.mono_l k
    intro y0 y1 y2
    unfold slices_Max_int_int.l0
    exact LeO.ite (LeO.ite (ih0 _ _ _) (LeO.refl _)) (LeO.refl _)
theorem slices_Max_int_int.mono : ∀ a0 k, LeO (slices_Max_int_int.f k a0) (slices_Max_int_int.f (k + 1) a0) := fun a0 k => LeO.ite (slices_Max_int_int.mono_l k _ _ _) (LeO.refl _)
set_option maxHeartbeats 4000000 in
set_option maxRecDepth 100000 in
theorem slices_Max_int_int.calls (k : Nat) (A0 : Option Addr) (c0 : Nat) (l0 : List Int) (r : Int) (w : World) (hr0 : Kd.C (Kd.int .i64) w A0 l0.length l0) (hc0 : l0.length ≤ c0) (h : slices_Max_int_int.f k l0 = some r) :
    Calls Try.prog 32 #[.slice A0 l0.length c0] w fun e w' => e = .returned (.int .i64 r) ∧ Drawn0 w w' := by
  have HR0 := Aside0.mk hr0
  have HC0 := Aside0.mk hc0
  clear hc0
  unfold slices_Max_int_int.f at h
  by_cases c1 : 0 < l0.length
  · rw [if_pos c1] at h
    have c1b : decide ((l0.length : Int) < 1) = false := decide_eq_false (by omega)
    obtain ⟨ad, rfl, hx⟩ := Kd.at_int hr0 0 (by omega) (by omega)
    rw [show ((0 : Int)).toNat = 0 from rfl, Addr.add_zero'] at hx
    have p0 : (0 : Int) < (l0.length : Int) := by omega
    have HP := Aside0.mk c1
    clear hr0 c1
    have H' := Aside0.mk h
    clear h
    go_enter Try.func32, Try.ntmps32
    go_wp2
    go_loopg [3, 4] k (fun kq v3 v4 w' => ∃ (m i : Int), v3 = .int .i64 m ∧ v4 = .int .i64 i ∧ Aside0 (slices_Max_int_int.l0 kq l0 m i = some r) ∧ Aside0 (kq ≤ k) ∧ Drawn0 w w')
    case atStart => exact ⟨rd l0 0, 1, (by first | rfl | (simp; done) | (simp [*]; done)), (by first | rfl | (simp; done) | (simp [*]; done)), H', ⟨Nat.le_refl _⟩, by repeat (first | exact Drawn0.refl _ | apply Drawn0.step)⟩
    case round =>
      clear H' hx
      try clear c1b
      obtain ⟨m, i, rfl, rfl, HA, HK, ⟨nd, rfl⟩⟩ := hrel
      cases gk with
      | zero => exact absurd HA.out (by simp [slices_Max_int_int.l0])
      | succ k1 =>
        have H := HA.out
        clear HA
        simp only [slices_Max_int_int.l0] at H
        by_cases c4 : i < (l0.length : Int)
        · rw [if_pos c4] at H
          have c4b0 : decide (i < (l0.length : Int)) = true := decide_eq_true c4
          by_cases c5 : 0 ≤ i
          · rw [if_pos c5] at H
            have c5b0 : decide (0 ≤ i) = true := decide_eq_true c5
            obtain ⟨ad2, e2, hx2⟩ := Kd.at_int HR0.out i c5 c4
            cases e2
            obtain ⟨x, hxx⟩ : ∃ x, x = rd l0 i := ⟨_, rfl⟩
            rw [← hxx] at H hx2
            obtain ⟨jm, hjm⟩ : ∃ j_ : Int, (mx m x) = j_ := ⟨_, rfl⟩
            rw [hjm] at H
            have hjm_ : (if m < x then x else m) = jm := hjm
            have H' := Aside0.mk H
            clear H hxx
            go_wp2
            go_roundg k1
            case measure => omega
            case rel => exact ⟨jm, wrap64 (i + 1), (by first | rfl | (simp; done) | (simp only [← hjm] <;> (first | rfl | simp)) | (simp [*]; done)), (by first | rfl | (simp; done) | (simp [*]; done)), H', ⟨by have := HK.out; omega⟩, by repeat (first | exact Drawn0.refl _ | exact ⟨_, rfl⟩ | apply Drawn0.step)⟩
          · rw [if_neg c5] at H
            exact absurd H (by simp)
        · rw [if_neg c4] at H
          have c4b0 : decide (i < (l0.length : Int)) = false := decide_eq_false c4
          obtain rfl := Option.some.inj H
          go_wp2
          go_ret
          exact ⟨by first | rfl | (simp; done), by repeat (first | exact Drawn0.refl _ | exact ⟨_, rfl⟩ | apply Drawn0.step)⟩
  · rw [if_neg c1] at h
    exact absurd h (by simp)

-- NOT PRINTED: function 31 (impl_PartMost_1)

/-! ### impl_PartMost: function 9, by hand -/
def impl_PartMost.step (k : Nat) (s : Int) (xs : List Int) : Option Int := (slices_Max_int_int.f k xs).bind fun m => some (mx s (wrap64 (m + 1)))
def impl_PartMost.f (k : Nat) (l : List Int) : Option (Int × Bool) :=
  (impl_StickIn.f k l).bind fun t => if t = true then ((impl_parts.f (impl_PartMost.step k) k l 0).bind fun r => some (r, true)) else some (0, false)
theorem impl_PartMost.mono_s (k : Nat) : ∀ s l, LeO (impl_PartMost.step k s l) (impl_PartMost.step (k + 1) s l) := fun _ _ => LeO.bind (slices_Max_int_int.mono _ _) (fun _ => LeO.refl _)
theorem impl_PartMost.mono : ∀ a0 k, LeO (impl_PartMost.f k a0) (impl_PartMost.f (k + 1) a0) := by
  intro a0 k
  unfold impl_PartMost.f
  exact LeO.bind (impl_StickIn.mono _ _) (fun _ => LeO.ite (LeO.bind (impl_parts.mono (impl_PartMost.mono_s k) _ _ _) (fun _ => LeO.refl _)) (LeO.refl _))
theorem impl_PartMost.heap_new {W : World} {o : Obj} {g : Nat} (h : g = W.heap.size) : (W.alloc o).heap[g]? = some o := by
  subst h
  exact heap_alloc_new W o
/-- What holds between the calls of the function that is told: the number's own cell. -/
def impl_PartMost.R (A0 : Option Addr) (n0 c0 g gb : Nat) (w0 : World) (s : Int) (w1 : World) : Prop := w1.heap[g]? = some (.cells #[.int .i64 s] 3 (0, 0)) ∧ Below w0.heap.size w0 w1
theorem impl_PartMost.moves {A0 : Option Addr} {n0 c0 g gb B1 : Nat} {w0 w1 w2 : World} {s : Int} (h : impl_PartMost.R A0 n0 c0 g gb w0 s w1) (hb : Below B1 w1 w2) (h1 : g < B1) (_ : gb < B1) (h3 : w0.heap.size ≤ B1) : impl_PartMost.R A0 n0 c0 g gb w0 s w2 :=
  ⟨(hb.block _ h1).trans h.1, h.2.trans (Below.mono hb h3)⟩
set_option maxHeartbeats 1000000 in
set_option maxRecDepth 100000 in
theorem impl_PartMost.tell (k : Nat) (l0 : List Int) (A0 : Option Addr) (c0 g gb : Nat) (w0 : World) (B1 : Nat) (s s' : Int) (xs : List Int) (A : Option Addr) (c : Nat) (w1 : World) (_hr0 : ∀ w', Below w0.heap.size w0 w' → Kd.C (Kd.int .i64) w' A0 l0.length l0) (_hc0 : l0.length ≤ c0) (hg0 : w0.heap.size ≤ g) (_hgb : w0.heap.size ≤ gb) (hg : g < B1) (hR : impl_PartMost.R A0 l0.length c0 g gb w0 s w1) (hz : B1 ≤ w1.heap.size)
    (hx : Kd.C (Kd.int .i64) w1 A xs.length xs) (hc : xs.length ≤ c) (h : impl_PartMost.step k s xs = some s') :
    Calls Try.prog 31 (#[.slice A xs.length c] ++ #[.pointer (some ⟨g, 0, none⟩)]) w1 fun e w2 => e = .returned (.tuple #[]) ∧ impl_PartMost.R A0 l0.length c0 g gb w0 s' w2 ∧ Below w0.heap.size w1 w2 ∧ ∀ k, B1 ≤ k → k < w1.heap.size → w2.heap[k]? = w1.heap[k]? := by
  show Calls Try.prog 31 #[.slice A xs.length c, .pointer (some ⟨g, 0, none⟩)] w1 _
  obtain ⟨m, h1, h⟩ := Option.bind_eq_some_iff.mp h
  have h := Option.some.inj h
  obtain ⟨hR1, hR2⟩ := hR
  obtain ⟨y, hy⟩ : ∃ y, wrap64 (m + 1) = y := ⟨_, rfl⟩
  rw [hy] at h
  have hyw : IntKind.i64.wrap (m + 1) = y := (i64_w _).trans hy
  have hm_ : (if s < y then y else s) = s' := h
  have H1 := Aside0.mk h1
  have HX := Aside0.mk hx
  have HC := Aside0.mk hc
  have HR1 := Aside0.mk hR1
  have HR2 := Aside0.mk hR2
  have HG := Aside0.mk (And.intro hg0 (And.intro hg hz))
  have c0_ : _ = some _ := blk_cell hR1 0
  have f0_ := blk_frozen hR1 0
  clear h1 hx hc hR1 hR2 hg0 hg hz h _hr0 _hc0 _hgb
  go_enter Try.func31, Try.ntmps31
  go_region_with (first | (go_at_call 32; refine (slices_Max_int_int.calls k _ _ xs m _ (by repeat (first | exact HX.out | (with_reducible refine Kd.C_drewN ?_ _) | (with_reducible refine Kd.C_drew ?_))) HC.out H1.out).mono ?_; rintro e w2 ⟨rfl, ⟨⟨n, rfl⟩⟩⟩))
  all_goals (try go_wp2)
  all_goals go_end0
  all_goals exact ⟨rfl, ⟨blk_put (blk_drewN HR1.out _) 0 _ (by simp [hm_]), (pw_below_drewN HR2.out _).setCell HG.out.1 _⟩, (pw_below_drewN (Below.refl _ _) _).setCell HG.out.1 _, fun k h1 h2 => Below.heap_setCell _ _ _ k (by have := HG.out.2.1; simp; omega)⟩
set_option maxHeartbeats 4000000 in
set_option maxRecDepth 100000 in
theorem impl_PartMost.calls (k : Nat) (A0 : Option Addr) (c0 : Nat) (l0 : List Int) (r1 : Int) (r2 : Bool) (w : World) (hr0 : Kd.C (Kd.int .i64) w A0 l0.length l0) (hc0 : l0.length ≤ c0) (h : impl_PartMost.f k l0 = some (r1, r2)) :
    Calls Try.prog 9 #[.slice A0 l0.length c0] w fun e w' => e = .returned (.tuple #[.int .i64 r1, .bool r2]) ∧ Below w.heap.size w w' := by
  have HR0 := Aside0.mk hr0
  have HC0 := Aside0.mk hc0
  clear hr0 hc0
  have HB := Aside0.mk (Below.refl w.heap.size w)
  obtain ⟨t, h1, h⟩ := Option.bind_eq_some_iff.mp h
  have A1 := Aside0.mk h1
  clear h1
  by_cases c3 : t = true
  · subst c3
    rw [if_pos rfl] at h
    obtain ⟨r, h3, h⟩ := Option.bind_eq_some_iff.mp h
    simp only [Option.some.injEq, Prod.mk.injEq] at h
    obtain ⟨rfl, rfl⟩ := h
    have A3 := Aside0.mk h3
    clear h3
    have hmf : ∀ (fn : Fn) (first cap : Array Value) (w : World), (Instr.makeFunc fn first cap).run Try.prog w = .ok (.func fn first cap) w := fun _ _ _ _ => rfl
    have ca : ∀ m, ((w.drewN m).alloc (Obj.cells #[.int .i64 0] 3)).cell? ⟨w.heap.size, 0, none⟩ = some (.int .i64 0) := fun m => blk_cell (impl_PartMost.heap_new (by simp)) 0
    have fa : ∀ m, ((w.drewN m).alloc (Obj.cells #[.int .i64 0] 3)).frozen? ⟨w.heap.size, 0, none⟩ = false := fun m => blk_frozen (impl_PartMost.heap_new (by simp)) 0
    have hb0 : ∀ m, Below w.heap.size w (((w.drewN m).alloc (Obj.cells #[.int .i64 0] 3)).setCell ⟨w.heap.size, 0, none⟩ (.int .i64 0)) := fun m => (below_alloc (pw_below_drewN (Below.refl w.heap.size w) m) _).setCell (Nat.le_refl _) _
    have HBM := Aside0.mk hb0
    clear hb0
    go_enter Try.func9, Try.ntmps9
    go_wp2_with (first
      | (go_at_call 23; refine (impl_StickIn.calls k _ _ l0 true _ (by repeat (first | exact HR0.out | (with_reducible refine Kd.C_alloc ?_ _) | (with_reducible refine Kd.C_drewN ?_ _) | (with_reducible refine Kd.C_drew ?_))) HC0.out A1.out).mono ?_; rintro e w1 ⟨rfl, ⟨⟨n, rfl⟩⟩⟩)
      | (go_at_call 24; refine (impl_parts.calls (impl_PartMost.step k) 31 _ Try.func31 (by kernel_rfl) rfl #[.pointer (some ⟨w.heap.size, 0, none⟩)] w.heap.size (impl_PartMost.R A0 l0.length c0 (w.heap.size) w.heap.size w) k A0 c0 l0 0 r _ ?hm ?ht ?hB ?hr HC0.out ?hs A3.out).mono ?_; (case hm => exact fun s w1 w2 h1 h2 => impl_PartMost.moves h1 h2 (by simp; try omega) (by simp; try omega) (by simp; try omega)); (case ht => exact fun s s' xs A c w1 h1 hz hx hc h2 => impl_PartMost.tell k l0 A0 c0 _ _ w _ s s' xs A c w1 (fun w' hb => Kd.C_below HR0.out hb) HC0.out (by omega) (by omega) (by simp; try omega) h1 hz hx hc h2); (case hB => simp; try omega); (case hr => exact fun w' hb => Kd.C_below HR0.out (Below.trans (HBM.out _) hb)); (case hs => exact ⟨blk_put (impl_PartMost.heap_new (by simp)) 0 _ rfl, HBM.out _⟩); rintro e w2 ⟨rfl, hs, hb⟩; have c2 := blk_cell hs.1 0; have HB2 := Aside0.mk (Below.trans (HBM.out _) hb); clear hb hs))
    go_ret2
    exact ⟨rfl, HB2.out⟩
  · replace c3 := Bool.eq_false_iff.mpr c3
    subst c3
    rw [if_neg (by decide)] at h
    simp only [Option.some.injEq, Prod.mk.injEq] at h
    obtain ⟨rfl, rfl⟩ := h
    go_enter Try.func9, Try.ntmps9
    go_wp2_with (first
      | (go_at_call 23; refine (impl_StickIn.calls k _ _ l0 false _ (by repeat (first | exact HR0.out | (with_reducible refine Kd.C_alloc ?_ _) | (with_reducible refine Kd.C_drewN ?_ _) | (with_reducible refine Kd.C_drew ?_))) HC0.out A1.out).mono ?_; rintro e w1 ⟨rfl, ⟨⟨n, rfl⟩⟩⟩))
    go_ret2
    exact ⟨rfl, by repeat (first | (with_reducible first | exact HB.out | apply below_alloc | apply pw_below_drewN | apply below_drew1) | exact HB.out)⟩

/-- A state of type 48 at block g of W; what its slices lead to came in by w0. -/
def IsS48 (w0 W : World) (g : Nat) (f0 : List Int) (f1 : Int) : Prop := ∃ A0 c0, W.heap[g]? = some (.cells #[.slice A0 f0.length c0, .int .i64 f1] 48 (0, 0)) ∧ w0.heap.size ≤ g ∧ Kd.C (Kd.int .u8) w0 A0 f0.length f0
theorem IsS48.grown {w0 W : World} {g : Nat} {f0 : List Int} {f1 : Int} {W1 : World} {row : Option Nat} (h : IsS48 w0 W g f0 f1) (hw : W.grownBy W1 row) (hne : some g ≠ row) : IsS48 w0 W1 g f0 f1 := by
  obtain ⟨A0, c0, hb, hg, hr0⟩ := h
  exact ⟨A0, c0, blk_grown hb hw hne, hg, hr0⟩
theorem IsS48.own_neN {w0 W : World} {g : Nat} {f0 : List Int} {f1 : Int} {α : Type} {d : Kd α} {e : Nat} {base : Nat} {ok : Nat → Prop} {v : Value} {xs : List α} (h : IsS48 w0 W g f0 f1) (ho : Kd.N d e W base ok v xs) (ht : e ≠ 48) : some g ≠ v.ownBlock := by
  obtain ⟨A0, c0, hb, hg, hr0⟩ := h
  exact Kd.N_ne ho hb ht
theorem IsS48.fresh {w0 W : World} {g : Nat} {f0 : List Int} {f1 : Int} (h : IsS48 w0 W g f0 f1) : ∀ k, W.heap.size ≤ k → k ≠ g := by
  obtain ⟨A0, c0, hb, hg, hr0⟩ := h
  exact Kd.freshB hb
theorem IsS48.kept {w0 W : World} {g : Nat} {f0 : List Int} {f1 : Int} {W1 : World} {S : Nat → Prop} (h : IsS48 w0 W g f0 f1) (hk : Kept W W1 S) (hne : ¬ S g) : IsS48 w0 W1 g f0 f1 := by
  obtain ⟨A0, c0, hb, hg, hr0⟩ := h
  exact ⟨A0, c0, blk_kept hb hk hne, hg, hr0⟩
theorem IsS48.below {w0 W : World} {g : Nat} {f0 : List Int} {f1 : Int} {W1 : World} (h : IsS48 w0 W g f0 f1) (hw : Below W.heap.size W W1) : IsS48 w0 W1 g f0 f1 := h.grown (grown_of_below hw none) (by simp)
theorem IsS48.alloc {w0 W : World} {g : Nat} {f0 : List Int} {f1 : Int} (h : IsS48 w0 W g f0 f1) (o : Obj) : IsS48 w0 (W.alloc o) g f0 f1 := h.below (below_alloc (Below.refl _ _) o)
theorem IsS48.drewN {w0 W : World} {g : Nat} {f0 : List Int} {f1 : Int} (h : IsS48 w0 W g f0 f1) (m : Nat) : IsS48 w0 (W.drewN m) g f0 f1 := h
theorem IsS48.drew {w0 W : World} {g : Nat} {f0 : List Int} {f1 : Int} (h : IsS48 w0 W g f0 f1) : IsS48 w0 W.drew g f0 f1 := h
theorem IsS48.at_ {w0 W : World} {g : Nat} {f0 : List Int} {f1 : Int} {w' : World} {m : Nat} (hq : W.drewN m = w') (h : IsS48 w0 W g f0 f1) : IsS48 w0 w' g f0 f1 := by subst hq; exact IsS48.drewN h m
theorem IsS48.apart {w0 W : World} {g : Nat} {f0 : List Int} {f1 : Int} {α : Type} {d : Kd α} {e : Nat} {base : Nat} {ok : Nat → Prop} {v : Value} {xs : List α} (h : IsS48 w0 W g f0 f1) (ho : d.R e W base ok v xs) (ht : ∀ q, q ∈ e :: d.E → q ≠ 48) : d.R e W base (fun k => ok k ∧ k ≠ g) v xs := by
  obtain ⟨A0, c0, hb, hg, hr0⟩ := h
  exact Kd.R_types ho hb ht
theorem IsS48.own_ne {w0 W : World} {g : Nat} {f0 : List Int} {f1 : Int} {α : Type} {d : Kd α} {e : Nat} {base : Nat} {ok : Nat → Prop} {v : Value} {xs : List α} (h : IsS48 w0 W g f0 f1) (ho : d.R e W base ok v xs) (ht : e ≠ 48) : some g ≠ v.ownBlock := by
  obtain ⟨A0, c0, hb, hg, hr0⟩ := h
  exact Kd.R_ne ho hb ht
theorem IsS48.apartQ {w0 W : World} {g : Nat} {f0 : List Int} {f1 : Int} {α : Type} {d : Kd α} {e : Nat} {base : Nat} {ok : Nat → Prop} {v : Value} {xs : List α} (h : IsS48 w0 W g f0 f1) (ho : d.Q e W base ok v xs) (ht : ∀ q, q ∈ e :: d.E → q ≠ 48) : d.Q e W base (fun k => ok k ∧ k ≠ g) v xs := by
  obtain ⟨A0, c0, hb, hg, hr0⟩ := h
  exact Kd.Q_types ho hb ht
theorem IsS48.own_neQ {w0 W : World} {g : Nat} {f0 : List Int} {f1 : Int} {α : Type} {d : Kd α} {e : Nat} {base : Nat} {ok : Nat → Prop} {v : Value} {xs : List α} (h : IsS48 w0 W g f0 f1) (ho : d.Q e W base ok v xs) (ht : e ≠ 48) : some g ≠ v.ownBlock := by
  obtain ⟨A0, c0, hb, hg, hr0⟩ := h
  exact Kd.Q_ne ho hb ht
theorem IsS48.apartS {w0 W : World} {g : Nat} {f0 : List Int} {f1 : Int} {α : Type} {d : Kd α} {e : Nat} {base : Nat} {ok : Nat → Prop} {v : Value} {xs : List α} (h : IsS48 w0 W g f0 f1) (ho : d.S e W base ok v xs) (ht : ∀ q, q ∈ e :: d.E → q ≠ 48) : d.S e W base (fun k => ok k ∧ k ≠ g) v xs := by
  obtain ⟨A0, c0, hb, hg, hr0⟩ := h
  exact Kd.S_types ho hb ht
theorem IsS48.own_neS {w0 W : World} {g : Nat} {f0 : List Int} {f1 : Int} {α : Type} {d : Kd α} {e : Nat} {base : Nat} {ok : Nat → Prop} {v : Value} {xs : List α} (h : IsS48 w0 W g f0 f1) (ho : d.S e W base ok v xs) (ht : e ≠ 48) : some g ≠ v.ownBlock := by
  obtain ⟨A0, c0, hb, hg, hr0⟩ := h
  exact Kd.S_ne ho hb ht
theorem IsS48.lt {w0 W : World} {g : Nat} {f0 : List Int} {f1 : Int} (h : IsS48 w0 W g f0 f1) : g < W.heap.size := by
  obtain ⟨A0, c0, hb, hg, hr0⟩ := h
  exact blk_lt hb
theorem IsS48.ge {w0 W : World} {g : Nat} {f0 : List Int} {f1 : Int} (h : IsS48 w0 W g f0 f1) : w0.heap.size ≤ g := by
  obtain ⟨A0, c0, hb, hg, hr0⟩ := h
  exact hg
theorem IsS48.ne_blk {w0 W : World} {g : Nat} {f0 : List Int} {f1 : Int} {a : Nat} {cs : Array Value} {t : TypeId} {fr : Nat × Nat} (h : IsS48 w0 W g f0 f1) (hb2 : W.heap[a]? = some (.cells cs t fr)) (ht : t ≠ 48) : g ≠ a := by
  obtain ⟨A0, c0, hb, hg, hr0⟩ := h
  rintro rfl
  rw [hb] at hb2
  injection hb2 with hb2
  injection hb2 with _ ht2
  exact ht ht2.symm
theorem IsS48.far {w0 W : World} {g : Nat} {f0 : List Int} {f1 : Int} {p : Addr} (h : IsS48 w0 W g f0 f1) (hne : g ≠ p.block) (u : Value) : IsS48 w0 (W.setCell p u) g f0 f1 := by
  obtain ⟨A0, c0, hb, hg, hr0⟩ := h
  exact ⟨A0, c0, blk_far hb hne u, hg, hr0⟩
theorem cellS48_0 {W : World} {g : Nat} {A0 : Option Addr} {c0 : Nat} {f0 : List Int} {f1 : Int} (h : W.heap[g]? = some (.cells #[.slice A0 f0.length c0, .int .i64 f1] 48 (0, 0))) : W.cell? ⟨g, 0, none⟩ = some (.slice A0 f0.length c0) := (blk_cell h 0).trans rfl
theorem cellS48_1 {W : World} {g : Nat} {A0 : Option Addr} {c0 : Nat} {f0 : List Int} {f1 : Int} (h : W.heap[g]? = some (.cells #[.slice A0 f0.length c0, .int .i64 f1] 48 (0, 0))) : W.cell? ⟨g, 1, none⟩ = some (.int .i64 f1) := (blk_cell h 1).trans rfl
theorem IsS48.set_1 {w0 W : World} {g : Nat} {f0 : List Int} {f1 : Int} (h : IsS48 w0 W g f0 f1) (x : Int) : IsS48 w0 (W.setCell ⟨g, 1, none⟩ (.int .i64 x)) g f0 x := by
  obtain ⟨A0, c0, hb, hg, hr0⟩ := h
  exact ⟨A0, c0, by simpa using blk_set hb 1 (.int .i64 x), hg, hr0⟩
theorem IsS48.new (w0 W : World) (A0 : Option Addr) (c0 : Nat) (f0 : List Int) (f1 : Int) (hB : Below w0.heap.size w0 W) (hr0 : Kd.C (Kd.int .u8) w0 A0 f0.length f0) : IsS48 w0 (W.alloc (.cells #[.slice A0 f0.length c0, .int .i64 f1] 48)) W.heap.size f0 f1 := ⟨A0, c0, by simpa using heap_alloc_new W _, hB.size, hr0⟩

/-! ### spec_l6Open: function 19 -/
def spec_l6Open.f (l0 : List Int) : Option (List Int × Int) := if (l0.length : Int) > 2000 then (if 2000 ≤ (l0.length : Int) then (some (l0.take 2000, 0)) else (none)) else (some (l0, 0))
set_option maxHeartbeats 8000000 in
set_option maxRecDepth 100000 in
theorem spec_l6Open.calls (A0 : Option Addr) (c0 : Nat) (l0 : List Int) (r1 : List Int) (r2 : Int) (w0 w : World) (hB : Below w0.heap.size w0 w) (hr0 : Kd.C (Kd.int .u8) w0 A0 l0.length l0) (hc0 : l0.length ≤ c0) (h : spec_l6Open.f l0 = some (r1, r2)) :
    Calls Try.prog 19 #[.slice A0 l0.length c0] w fun e w' => ∃ g_ : Nat, e = .returned (.pointer (some ⟨g_, 0, none⟩)) ∧ IsS48 w0 w' g_ r1 r2 ∧ Below w0.heap.size w0 w' ∧ Below w.heap.size w w' := by
  have hu48 := Try.underlying48
  have HR0 := Aside0.mk hr0
  have HC0 := Aside0.mk hc0
  clear hr0 hc0
  have HBW := Aside0.mk (Below.refl w.heap.size w)
  have HW0 := Aside0.mk hB.size
  have HB := Aside0.mk hB
  clear hB
  have H : (if (l0.length : Int) > 2000 then (if 2000 ≤ (l0.length : Int) then (some (l0.take 2000, 0)) else (none)) else (some (l0, 0))) = some (r1, r2) := h
  clear h
  by_cases c2 : (l0.length : Int) > 2000
  · rw [if_pos c2] at H
    have c2b0 : decide (2000 < (l0.length : Int)) = true := decide_eq_true c2
    have c2b1 : decide (2000 < l0.length) = true := decide_eq_true (by omega)
    clear c2
    by_cases c3 : 2000 ≤ (l0.length : Int)
    · rw [if_pos c3] at H
      have c3b0 := eq_true c3
      have c3b1 : decide (2000 ≤ (l0.length : Int)) = true := decide_eq_true c3
      clear c3
      simp only [Option.some.injEq, Prod.mk.injEq] at H
      obtain ⟨rfl, rfl⟩ := H
      obtain ⟨i04, hi04, _, hsz4, _⟩ := info_parts info5
      obtain ⟨hcut4, hA4, hC4⟩ := print_take_of (P := Try.prog) (Value.int .u8) 0 22 5 .i64 Try.underlying22 hi04 hsz4 A0 c0 l0 2000 (by omega) (of_decide_eq_true (by first | (with_reducible assumption) | assumption)) HC0.out
      have HR126 := Aside0.mk (Kd.C_of_reads (h1 := fun _ => rfl) (hA4 _ (Kd.reads_of_C HR0.out)))
      have HC126 := Aside0.mk hC4
      clear hA4 hC4 hi04 hsz4
      go_enter Try.func19, Try.ntmps19
      go_wp2_with (first | ((with_reducible refine gate_dst (N := 10) rfl ?_); refine box_event ?hg (N := 10) ?hd (cs := #[.slice A0 (l0.take 2000).length c0, .int .i64 0]) (t := 48) ?hr ?_; (case hd => rfl); (case hg => rfl); (case hr => first | (go_simp; done) | (go_simp; rfl)); intro gb127 hg w5 hbox hb; have n0_ := Aside0.mk (below_step HBW.out hb); have n1_ := Aside0.mk (below_step (by repeat (first | (with_reducible first | exact HB.out | apply below_alloc | apply pw_below_drewN | apply below_drew1) | exact HB.out)) hb); have n2_ := Aside0.mk (hbox); have n3_ := Aside0.mk ((by rw [hg]; exact (below_size (by repeat (first | (with_reducible first | exact HBW.out | apply below_alloc | apply pw_below_drewN | apply below_drew1) | exact HBW.out))) : w.heap.size ≤ gb127)); have n4_ := Aside0.mk ((Nat.le_trans HW0.out (by rw [hg]; exact (below_size (by repeat (first | (with_reducible first | exact HBW.out | apply below_alloc | apply pw_below_drewN | apply below_drew1) | exact HBW.out))) : w.heap.size ≤ gb127) : w0.heap.size ≤ gb127)); clear HBW; clear HB; have HBW := n0_; have HB := n1_; have BK127 := n2_; have GW127 := n3_; have GE127 := n4_; clear n0_ n1_ n2_ n3_ n4_; clear hb hbox hg))
      go_ret
      exact ⟨_, rfl, (show IsS48 w0 _ gb127 (l0.take 2000) 0 from ⟨_, _, by (with_reducible repeat (first | refine blk_drewN ?_ _ | refine blk_drew ?_ | refine blk_alloc ?_ _)); exact BK127.out, GE127.out, HR126.out⟩), by repeat (first | (with_reducible first | exact HB.out | apply below_alloc | apply pw_below_drewN | apply below_drew1 | refine below_set ?_ GE127.out) | exact HB.out), by repeat (first | (with_reducible first | exact HBW.out | apply below_alloc | apply pw_below_drewN | apply below_drew1 | refine below_set ?_ GW127.out) | exact HBW.out)⟩
    · rw [if_neg c3] at H
      exact absurd H (by simp)
  · rw [if_neg c2] at H
    have c2b0 : decide (2000 < (l0.length : Int)) = false := decide_eq_false c2
    have c2b1 : decide (2000 < l0.length) = false := decide_eq_false (by omega)
    clear c2
    simp only [Option.some.injEq, Prod.mk.injEq] at H
    obtain ⟨rfl, rfl⟩ := H
    go_enter Try.func19, Try.ntmps19
    go_wp2_with (first | ((with_reducible refine gate_dst (N := 10) rfl ?_); refine box_event ?hg (N := 10) ?hd (cs := #[.slice A0 l0.length c0, .int .i64 0]) (t := 48) ?hr ?_; (case hd => rfl); (case hg => rfl); (case hr => first | (go_simp; done) | (go_simp; rfl)); intro gb128 hg w6 hbox hb; have n0_ := Aside0.mk (below_step HBW.out hb); have n1_ := Aside0.mk (below_step (by repeat (first | (with_reducible first | exact HB.out | apply below_alloc | apply pw_below_drewN | apply below_drew1) | exact HB.out)) hb); have n2_ := Aside0.mk (hbox); have n3_ := Aside0.mk ((by rw [hg]; exact (below_size (by repeat (first | (with_reducible first | exact HBW.out | apply below_alloc | apply pw_below_drewN | apply below_drew1) | exact HBW.out))) : w.heap.size ≤ gb128)); have n4_ := Aside0.mk ((Nat.le_trans HW0.out (by rw [hg]; exact (below_size (by repeat (first | (with_reducible first | exact HBW.out | apply below_alloc | apply pw_below_drewN | apply below_drew1) | exact HBW.out))) : w.heap.size ≤ gb128) : w0.heap.size ≤ gb128)); clear HBW; clear HB; have HBW := n0_; have HB := n1_; have BK128 := n2_; have GW128 := n3_; have GE128 := n4_; clear n0_ n1_ n2_ n3_ n4_; clear hb hbox hg))
    go_ret
    exact ⟨_, rfl, (show IsS48 w0 _ gb128 l0 0 from ⟨_, _, by (with_reducible repeat (first | refine blk_drewN ?_ _ | refine blk_drew ?_ | refine blk_alloc ?_ _)); exact BK128.out, GE128.out, HR0.out⟩), by repeat (first | (with_reducible first | exact HB.out | apply below_alloc | apply pw_below_drewN | apply below_drew1 | refine below_set ?_ GE128.out) | exact HB.out), by repeat (first | (with_reducible first | exact HBW.out | apply below_alloc | apply pw_below_drewN | apply below_drew1 | refine below_set ?_ GW128.out) | exact HBW.out)⟩

end Go.Proofs.Ythgphegpkjngaaa.PFnPartMost
