/- Written by a program of this claim out of the translation: plain Lean functions and their contracts; what is proved: each Go function of this text comes to what its Lean function says. -/
import Derived.Test.YtlgcjmgfhbdpgaaDoorPFnProofThreesx0
import Derived.Test.YtlgcjmgfhbdpgaaDoorPFnProofThreesx3
import Derived.Test.YtlgcjmgfhbdpgaaDoorPFnProofThreesx4
namespace Go.Proofs.YtlgcjmgfhbdpgaaDoor.PFnProofThrees
open Go.RowKit Go.Proofs.YtlgcjmgfhbdpgaaDoorW.PrintWords Go.Proofs.YtlgcjmgfhbdpgaaDoorW.PrintLast Go.Proofs.YtlgcjmgfhbdpgaaDoorW.PrintMore
attribute [local go_sem] max2_int min2_int max_two min_two max_three min_three max_four min_four   -- for this text's walks alone
set_option linter.unusedVariables false
set_option linter.unusedSimpArgs false

/-! ### impl_parts: function 34, by hand -/
/-- Mode 0: a call of the inner function; mode 1: its loop, at a number; mode 2: that number is put behind the list. -/
def impl_parts.t {S : Type} (step : S → List Int → Option S) : Nat → Nat → List Int → List Int → Int → Int → S → Option S
  | 0, _, _, _, _, _, _ => none
  | k + 1, 0, a, l, m, _, s => if (l.length : Int) = (a.length : Int) then ((impl_partsFit.f k a l m).bind fun b => if b = true then step s l else some s) else impl_parts.t step k 1 a l m (-1) s
  | k + 1, 1, a, l, m, i, s => if i ≤ m then (if 0 ≤ i then ((impl_countOf.f k l i).bind fun c => if c = 3 then impl_parts.t step k 1 a l m (wrap64 (i + 1)) s else impl_parts.t step k 2 a l m i s) else impl_parts.t step k 2 a l m i s) else some s
  | k + 1, _, a, l, m, i, s => if l.length < 1000 then ((if i = m then impl_parts.t step k 0 a (l ++ [i]) (wrap64 (m + 1)) 0 s else impl_parts.t step k 0 a (l ++ [i]) m 0 s).bind fun s' => impl_parts.t step k 1 a l m (wrap64 (i + 1)) s') else none
def impl_parts.f {S : Type} (step : S → List Int → Option S) (k : Nat) (a : List Int) (s : S) : Option S := if a.length ≤ 1000 then impl_parts.t step k 0 a [] 0 0 s else none
theorem impl_parts.t0 {S : Type} (step : S → List Int → Option S) (k : Nat) (a l : List Int) (m i : Int) (s : S) : impl_parts.t step (k + 1) 0 a l m i s = if (l.length : Int) = (a.length : Int) then ((impl_partsFit.f k a l m).bind fun b => if b = true then step s l else some s) else impl_parts.t step k 1 a l m (-1) s := rfl
theorem impl_parts.t1 {S : Type} (step : S → List Int → Option S) (k : Nat) (a l : List Int) (m i : Int) (s : S) : impl_parts.t step (k + 1) 1 a l m i s = if i ≤ m then (if 0 ≤ i then ((impl_countOf.f k l i).bind fun c => if c = 3 then impl_parts.t step k 1 a l m (wrap64 (i + 1)) s else impl_parts.t step k 2 a l m i s) else impl_parts.t step k 2 a l m i s) else some s := rfl
theorem impl_parts.t2 {S : Type} (step : S → List Int → Option S) (k d : Nat) (a l : List Int) (m i : Int) (s : S) : impl_parts.t step (k + 1) (d + 2) a l m i s = if l.length < 1000 then ((if i = m then impl_parts.t step k 0 a (l ++ [i]) (wrap64 (m + 1)) 0 s else impl_parts.t step k 0 a (l ++ [i]) m 0 s).bind fun s' => impl_parts.t step k 1 a l m (wrap64 (i + 1)) s') else none := rfl
theorem impl_parts.mono_t {S : Type} {st st' : S → List Int → Option S} (hst : ∀ s l, LeO (st s l) (st' s l)) : ∀ k d y0 y1 y2 y3 y4, LeO (impl_parts.t st k d y0 y1 y2 y3 y4) (impl_parts.t st' (k + 1) d y0 y1 y2 y3 y4)
  | 0, _, _, _, _, _, _ => fun r h => by simp [impl_parts.t] at h
  | k + 1, d, y0, y1, y2, y3, y4 => by
    have ih := impl_parts.mono_t hst k
    have all : ∀ d, LeO (impl_parts.t st (k + 1) d y0 y1 y2 y3 y4) (impl_parts.t st' (k + 1 + 1) d y0 y1 y2 y3 y4) := by
      intro d
      match d with
      | 0 => rw [impl_parts.t0, impl_parts.t0]; exact LeO.ite (LeO.bind (impl_partsFit.mono _ _ _ _) (fun _ => LeO.ite (hst _ _) (LeO.refl _))) (ih _ _ _ _ _ _)
      | 1 => rw [impl_parts.t1, impl_parts.t1]; exact LeO.ite (LeO.ite (LeO.bind (impl_countOf.mono _ _ _) (fun _ => LeO.ite (ih _ _ _ _ _ _) (ih _ _ _ _ _ _))) (ih _ _ _ _ _ _)) (LeO.refl _)
      | d + 2 => rw [impl_parts.t2, impl_parts.t2]; exact LeO.ite (LeO.bind (LeO.ite (ih _ _ _ _ _ _) (ih _ _ _ _ _ _)) (fun _ => ih _ _ _ _ _ _)) (LeO.refl _)
    exact all d
theorem impl_parts.mono {S : Type} {st st' : S → List Int → Option S} (hst : ∀ s l, LeO (st s l) (st' s l)) (a : List Int) (s : S) (k : Nat) : LeO (impl_parts.f st k a s) (impl_parts.f st' (k + 1) a s) := by
  unfold impl_parts.f
  exact LeO.ite (impl_parts.mono_t hst k _ _ _ _ _ _) (LeO.refl _)
/-- What holds of the world between the steps: the list's own box and row, the boxes of the argument, of the function that is told and of the inner one; the state, and the blocks that it keeps: none of them is the list's. -/
structure impl_parts.I {S : Type} (K : Nat) (caps : Array Value) (A0 : Option Addr) (n0 c0 B0 B1 gl ga gt gy : Nat) (R : S → (Nat → Prop) → World → Prop) (w0 w : World) (l : List Int) (s : S) : Prop where
  row : ∃ A c, w.heap[gl]? = some (.cells #[.slice A l.length c] 22 (0, 0)) ∧ l.length ≤ c ∧ ∃ M : Nat → Prop, Kd.R (Kd.int .i64) 3 w B1 (fun k => ¬ M k) (.slice A l.length c) l ∧ R s M w ∧ ∀ k, M k → k < w.heap.size ∧ k ≠ gl
  arg : w.heap[ga]? = some (.cells #[.slice A0 n0 c0] 22 (0, 0))
  tel : w.heap[gt]? = some (.cells #[.func (.func K) #[] caps] 57 (0, 0))
  try_ : w.heap[gy]? = some (.cells #[.func (.func 53) #[] #[.pointer (some ⟨gl, 0, none⟩), .pointer (some ⟨ga, 0, none⟩), .pointer (some ⟨gt, 0, none⟩), .pointer (some ⟨gy, 0, none⟩)]] 66 (0, 0))
  low : Below B0 w0 w
  siz : B1 ≤ w.heap.size
section
variable {S : Type} {K : Nat} {caps : Array Value} {A0 : Option Addr} {n0 c0 B0 B1 gl ga gt gy : Nat} {R : S → (Nat → Prop) → World → Prop} {w0 w w1 : World} {l : List Int} {s s' : S}
theorem impl_parts.I.below (h : impl_parts.I K caps A0 n0 c0 B0 B1 gl ga gt gy R w0 w l s) (hmove : ∀ s M w1 w2, R s M w1 → Below B1 w1 w2 → (∀ k, M k → w2.heap[k]? = w1.heap[k]?) → R s M w2) (hB : B0 ≤ B1) (hb : Below w.heap.size w w1) : impl_parts.I K caps A0 n0 c0 B0 B1 gl ga gt gy R w0 w1 l s := by
  obtain ⟨⟨A, c, h1, h2, M, h3, hs, hm⟩, ha, ht, hy, hl, hz⟩ := h
  exact ⟨⟨A, c, blk_below h1 hb, h2, M, Kd.R_below h3 hb, hmove _ _ _ _ hs (Below.mono hb hz) (fun k hk => hb.block k (hm k hk).1), fun k hk => ⟨Nat.lt_of_lt_of_le (hm k hk).1 hb.size, (hm k hk).2⟩⟩, blk_below ha hb, blk_below ht hb, blk_below hy hb, hl.trans (Below.mono hb (Nat.le_trans hB hz)), Nat.le_trans hz hb.size⟩
theorem impl_parts.I.told {M : Nat → Prop} {A : Option Addr} {c : Nat} (q1 : w.heap[gl]? = some (.cells #[.slice A l.length c] 22 (0, 0))) (q2 : l.length ≤ c) (q3 : Kd.R (Kd.int .i64) 3 w B1 (fun k => ¬ M k) (.slice A l.length c) l) (hm : ∀ k, M k → k < w.heap.size ∧ k ≠ gl) (h : impl_parts.I K caps A0 n0 c0 B0 B1 gl ga gt gy R w0 w l s) (h1 : B1 ≤ gl) (h2 : B1 ≤ ga) (h3 : B1 ≤ gt) (h4 : B1 ≤ gy) (hs : ∃ M', R s' M' w1 ∧ ∀ k, M' k → (M k ∨ w.heap.size ≤ k) ∧ k < w1.heap.size) (hb : Below B0 w w1) (hk : ∀ k, B1 ≤ k → k < w.heap.size → w1.heap[k]? = w.heap[k]?) : impl_parts.I K caps A0 n0 c0 B0 B1 gl ga gt gy R w0 w1 l s' := by
  obtain ⟨_, ha, ht, hy, hl, hz⟩ := h
  obtain ⟨M', hs, hm'⟩ := hs
  refine ⟨⟨A, c, (hk _ h1 (blk_lt q1)).trans q1, q2, M', Kd.R_mono (Kd.R_step (Kd.R_bound q3) (fun k h _ => hk k h.2.1 h.2.2.1)) (fun k hk hq => ?_), hs, fun k hq => ⟨(hm' k hq).2, fun he => ?_⟩⟩, (hk _ h2 (blk_lt ha)).trans ha, (hk _ h3 (blk_lt ht)).trans ht, (hk _ h4 (blk_lt hy)).trans hy, hl.trans hb, Nat.le_trans hz hb.size⟩
  · rcases (hm' k hq).1 with h | h
    · exact hk.1 h
    · have := hk.2.2.1
      omega
  · have := blk_lt q1
    rcases (hm' k hq).1 with h | h
    · exact (hm k h).2 he
    · omega
/-- The list's box is written: a row over it stands in the world as it is. -/
theorem impl_parts.I.put {v : Value} (h : w.heap[gl]? = some (.cells #[v] 22 (0, 0))) (ha : w.heap[ga]? = some (.cells #[.slice A0 n0 c0] 22 (0, 0))) (hga : ga ≠ gl)
    (ht : w.heap[gt]? = some (.cells #[.func (.func K) #[] caps] 57 (0, 0)))
    (hy : w.heap[gy]? = some (.cells #[.func (.func 53) #[] #[.pointer (some ⟨gl, 0, none⟩), .pointer (some ⟨ga, 0, none⟩), .pointer (some ⟨gt, 0, none⟩), .pointer (some ⟨gy, 0, none⟩)]] 66 (0, 0)))
    (hmove : ∀ s M w1 w2, R s M w1 → Below B1 w1 w2 → (∀ k, M k → w2.heap[k]? = w1.heap[k]?) → R s M w2) {M : Nat → Prop} (hs : R s M w) (hm : ∀ k, M k → k < w.heap.size ∧ k ≠ gl) (hl : Below B0 w0 w) (hz : B1 ≤ w.heap.size) (hg : B1 ≤ gl) (hB : B0 ≤ B1)
    {A : Option Addr} {c : Nat} (hc : l.length ≤ c) (hr : Kd.R (Kd.int .i64) 3 w B1 (fun k => ¬ M k) (.slice A l.length c) l) : impl_parts.I K caps A0 n0 c0 B0 B1 gl ga gt gy R w0 (w.setCell ⟨gl, 0, none⟩ (.slice A l.length c)) l s := by
  have b1 : Below B1 w (w.setCell ⟨gl, 0, none⟩ (.slice A l.length c)) := (Below.refl _ _).setCell hg _
  have n1 : gt ≠ gl := blk_ne ht h (by decide)
  have n2 : gy ≠ gl := blk_ne hy h (by decide)
  exact ⟨⟨A, c, blk_put h 0 _ rfl, hc, M, Kd.R_set hr h (by decide) 0 _, hmove _ _ _ _ hs b1 (fun k hk => Below.heap_setCell _ _ _ k (hm k hk).2), fun k hk => ⟨by simpa [World.setCell] using (hm k hk).1, (hm k hk).2⟩⟩, blk_far ha hga _, blk_far ht n1 _, blk_far hy n2 _, hl.trans (Below.mono b1 hB), by simpa [World.setCell] using hz⟩
theorem impl_parts.I.state (h : impl_parts.I K caps A0 n0 c0 B0 B1 gl ga gt gy R w0 w l s) : ∃ M, R s M w := by
  obtain ⟨⟨A, c, _, _, M, _, hs, _⟩, _⟩ := h
  exact ⟨M, hs⟩
end
set_option maxHeartbeats 8000000 in
set_option maxRecDepth 100000 in
theorem impl_parts.tries {S : Type} (step : S → List Int → Option S) (K : Nat) (fn : Func) (hK : Tryd.prog.funcs[K]? = some fn) (hKn : (fn.name == "runtime.NumGoroutine") = false) (hKb : fn.body.isSome = true) (caps : Array Value) (a : List Int) (A0 : Option Addr) (c0 B0 B1 gl ga gt gy : Nat) (R : S → (Nat → Prop) → World → Prop) (w0 : World)
    (hmove : ∀ s M w1 w2, R s M w1 → Below B1 w1 w2 → (∀ k, M k → w2.heap[k]? = w1.heap[k]?) → R s M w2)
    (htell : ∀ s s' M xs A c w1, R s M w1 → (∀ k, M k → k < w1.heap.size) → B1 ≤ w1.heap.size → Kd.C (Kd.int .i64) w1 A xs.length xs → xs.length ≤ c → step s xs = some s' → Calls Tryd.prog K (#[.slice A xs.length c] ++ caps) w1 fun e w2 => e = .returned (.tuple #[]) ∧ (∃ M', R s' M' w2 ∧ ∀ k, M' k → (M k ∨ w1.heap.size ≤ k) ∧ k < w2.heap.size) ∧ Below B0 w1 w2 ∧ ∀ k, B1 ≤ k → k < w1.heap.size → w2.heap[k]? = w1.heap[k]?)
    (h1 : B1 ≤ gl) (h2 : B1 ≤ ga) (h3 : B1 ≤ gt) (h4 : B1 ≤ gy) (h5 : ga ≠ gl) (hB : B0 ≤ B1) (hr0 : ∀ w', Below B0 w0 w' → Kd.C (Kd.int .i64) w' A0 a.length a) (hc0 : a.length ≤ c0) :
    ∀ (k : Nat) (l : List Int) (m : Int) (s s' : S) (w : World), impl_parts.t step k 0 a l m 0 s = some s' → impl_parts.I K caps A0 a.length c0 B0 B1 gl ga gt gy R w0 w l s →
    Calls Tryd.prog 53 #[.int .i64 m, .pointer (some ⟨gl, 0, none⟩), .pointer (some ⟨ga, 0, none⟩), .pointer (some ⟨gt, 0, none⟩), .pointer (some ⟨gy, 0, none⟩)] w fun e w' => e = .returned (.tuple #[]) ∧ impl_parts.I K caps A0 a.length c0 B0 B1 gl ga gt gy R w0 w' l s' := by
  have HM := Aside0.mk hmove
  have HT := Aside0.mk htell
  have HG := Aside0.mk (And.intro h1 (And.intro h2 (And.intro h3 (And.intro h4 (And.intro h5 (And.intro hB hc0))))))
  have HKn := Aside0.mk (And.intro hK (And.intro hKn hKb))
  have HR := Aside0.mk hr0
  clear hmove htell h1 h2 h3 h4 h5 hB hc0 hK hKn hKb hr0
  intro k
  induction k using Nat.strongRecOn with
  | ind k ih0 =>
  intro l m s s' w h hI
  have IH := Aside0.mk ih0
  clear ih0
  have HI := Aside0.mk hI
  clear hI
  cases k with
  | zero => simp [impl_parts.t] at h
  | succ k =>
    rw [impl_parts.t0] at h
    by_cases h0 : (l.length : Int) = (a.length : Int)
    · rw [if_pos h0] at h
      have e0 : ((l.length : Int) == (a.length : Int)) = true := beq_iff_eq.mpr h0
      clear h0
      obtain ⟨b, hb, h⟩ := Option.bind_eq_some_iff.mp h
      have HF := Aside0.mk hb
      clear hb
      obtain ⟨⟨A, c, g1, g2, M, g3, gs_, gm_⟩, ga_, gt_, gy_, gl_, gz_⟩ := HI.out
      have GM := Aside0.mk gm_
      clear gm_
      have cl : _ = some _ := blk_cell g1 0
      have fl := blk_frozen g1 0
      have ca : _ = some _ := blk_cell ga_ 0
      have ct : _ = some _ := blk_cell gt_ 0
      have cy : _ = some _ := blk_cell gy_ 0

      have GR := Aside0.mk (Kd.R_reads' g3).2.2
      have GC := Aside0.mk g2
      have GB := Aside0.mk gl_
      clear g1 g2 g3 ga_ gt_ gy_ gs_ gl_ gz_
      by_cases hb : b = true
      · subst hb
        rw [if_pos rfl] at h
        have H := Aside0.mk h
        clear h
        go_enter Tryd.func53, Tryd.ntmps53
        go_wp2_with (first
          | (go_at_call 54; refine (impl_partsFit.calls k _ _ a _ _ l m true _ (HR.out _ GB.out) HG.out.2.2.2.2.2.2 GR.out GC.out HF.out).mono ?_; rintro e w1 ⟨rfl, hb⟩; have HI2 := Aside0.mk (HI.out.below HM.out HG.out.2.2.2.2.2.1 hb); clear hb; obtain ⟨⟨A', c', q1, q2, M2, q3, qs, qm⟩, qa, qt, qy, ql, qz⟩ := HI2.out; have GQ := Aside0.mk (And.intro q1 (And.intro q2 (And.intro q3 qm))); have GR2 := Aside0.mk (Kd.R_reads' q3).2.2; have GC2 := Aside0.mk q2; have GZ2 := Aside0.mk qz; have GS2 := Aside0.mk qs; have dl : _ = some _ := blk_cell q1 0; have dt : _ = some _ := blk_cell qt 0; clear q1 q2 q3 qm qa qt qy qs ql qz))
        rw [enters_ HKn.out.1 HKn.out.2.1 HKn.out.2.2, Oper.upon_enter]
        refine (HT.out s s' M2 l A' c' w1 GS2.out (fun k hk => (GQ.out.2.2.2 k hk).1) GZ2.out GR2.out GC2.out H.out).mono ?_
        rintro e w2 ⟨rfl, hs2, hb2, hk2⟩
        have HI3 := Aside0.mk (impl_parts.I.told GQ.out.1 GQ.out.2.1 GQ.out.2.2.1 GQ.out.2.2.2 HI2.out HG.out.1 HG.out.2.1 HG.out.2.2.1 HG.out.2.2.2.1 hs2 hb2 hk2)
        clear hs2 hb2 hk2
        go_wp2
        refine bodyPost_ret (results_none rfl _ _ _) rfl ?_
        exact ⟨rfl, HI3.out⟩
      · replace hb := Bool.eq_false_iff.mpr hb
        subst hb
        rw [if_neg (by decide)] at h
        obtain rfl := Option.some.inj h
        clear h
        go_enter Tryd.func53, Tryd.ntmps53
        go_wp2_with (first
          | (go_at_call 54; refine (impl_partsFit.calls k _ _ a _ _ l m false _ (HR.out _ GB.out) HG.out.2.2.2.2.2.2 GR.out GC.out HF.out).mono ?_; rintro e w1 ⟨rfl, hb⟩; have HI2 := Aside0.mk (HI.out.below HM.out HG.out.2.2.2.2.2.1 hb); clear hb))
        refine bodyPost_ret (results_none rfl _ _ _) rfl ?_
        exact ⟨rfl, HI2.out⟩
    · rw [if_neg h0] at h
      have e0 : ((l.length : Int) == (a.length : Int)) = false := beq_eq_false_iff_ne.mpr h0
      clear h0
      obtain ⟨⟨A, c, g1, g2, M, g3, gs_, gm_⟩, ga_, gt_, gy_, gl_, gz_⟩ := HI.out
      have GM := Aside0.mk gm_
      clear gm_
      have cl : _ = some _ := blk_cell g1 0
      have fl := blk_frozen g1 0
      have ca : _ = some _ := blk_cell ga_ 0
      have ct : _ = some _ := blk_cell gt_ 0
      have cy : _ = some _ := blk_cell gy_ 0

      clear g1 g2 g3 ga_ gt_ gy_ gs_ gl_ gz_
      have H := Aside0.mk h
      clear h
      go_enter Tryd.func53, Tryd.ntmps53
      go_wp2
      go_loopg [6] k (fun kq v6 w' => ∃ (i : Int) (s1 : S), v6 = .int .i64 i ∧ Aside0 (impl_parts.t step kq 1 a l m i s1 = some s') ∧ Aside0 (kq ≤ k) ∧ Aside0 (impl_parts.I K caps A0 a.length c0 B0 B1 gl ga gt gy R w0 w' l s1))
      case atStart => exact ⟨-1, s, (by first | rfl | (simp; done) | (simp [*]; done)), H, ⟨Nat.le_refl _⟩, HI⟩
      case round =>
        clear H HI cl fl ca ct cy
        try clear e0
        obtain ⟨i, s1, rfl, HA, HK, HI⟩ := hrel
        cases gk with
        | zero => exact absurd HA.out (by simp [impl_parts.t])
        | succ k1 =>
          have h := HA.out
          clear HA
          rw [impl_parts.t1] at h
          obtain ⟨⟨A, c, g1, g2, M, g3, gs_, gm_⟩, ga_, gt_, gy_, gl_, gz_⟩ := HI.out
          have GM := Aside0.mk gm_
          clear gm_
          have cl : _ = some _ := blk_cell g1 0
          have fl := blk_frozen g1 0
          have ca : _ = some _ := blk_cell ga_ 0
          have ct : _ = some _ := blk_cell gt_ 0
          have cy : _ = some _ := blk_cell gy_ 0

          have GR := Aside0.mk (Kd.R_reads' g3).2.2
          have GC := Aside0.mk g2
          have GI := Aside0.mk (And.intro g1 (And.intro g3 (And.intro ga_ (And.intro gt_ (And.intro gy_ (And.intro gs_ (And.intro gl_ gz_)))))))
          have E1 := Aside0.mk (Kd.R_ne g3 g1 (by decide))
          have E2 := Aside0.mk (Kd.R_ne g3 ga_ (by decide))
          have E3 := Aside0.mk (Kd.R_ne g3 gt_ (by decide))
          have E4 := Aside0.mk (Kd.R_ne g3 gy_ (by decide))
          clear g1 g2 g3 ga_ gt_ gy_ gs_ gl_ gz_
          by_cases c1 : i ≤ m
          · rw [if_pos c1] at h
            have c1b : decide (i ≤ m) = true := decide_eq_true c1
            clear c1
            by_cases c2 : 0 ≤ i
            · rw [if_pos c2] at h
              have c2b : decide (0 ≤ i) = true := decide_eq_true c2
              clear c2
              obtain ⟨c', hc', h⟩ := Option.bind_eq_some_iff.mp h
              have HC := Aside0.mk hc'
              clear hc'
              by_cases c3 : c' = 3
              · rw [if_pos c3] at h
                have c3b : (c' == 3) = true := beq_iff_eq.mpr c3
                clear c3
                have H := Aside0.mk h
                clear h
                go_wp2_with (first
                  | (go_at_call 55; refine (impl_countOf.calls k1 _ _ l i c' _ GR.out GC.out HC.out).mono ?_; rintro e w1 ⟨rfl, ⟨⟨nd, rfl⟩⟩⟩; have HI2 := Aside0.mk (HI.out.below HM.out HG.out.2.2.2.2.2.1 (pw_below_drewN (Below.refl _ _) nd))))
                go_roundg k1
                case measure => omega
                case rel => exact ⟨wrap64 (i + 1), s1, (by first | rfl | (simp; done) | (simp [*]; done)), H, ⟨by have := HK.out; omega⟩, HI2⟩
              · rw [if_neg c3] at h
                have c3b : (c' == 3) = false := beq_eq_false_iff_ne.mpr c3
                clear c3
                cases k1 with
                | zero => exact absurd h (by simp [impl_parts.t])
                | succ k2 =>
                rw [impl_parts.t2] at h
                by_cases c4 : l.length < 1000
                · rw [if_pos c4] at h
                  have LM := Aside0.mk c4
                  clear c4
                  obtain ⟨l1, hl1⟩ : ∃ y : List Int, y = l ++ [i] := ⟨_, rfl⟩
                  have Nl := Aside0.mk hl1
                  clear hl1
                  by_cases c5 : i = m
                  · rw [if_pos c5] at h
                    have c5b : (i == m) = true := beq_iff_eq.mpr c5
                    clear c5
                    obtain ⟨s2, h2, h⟩ := Option.bind_eq_some_iff.mp h
                    rw [← Nl.out] at h2
                    have H2 := Aside0.mk h2
                    have H := Aside0.mk h
                    clear h h2
                    go_wp2_with (first | (go_at_call 55; refine (impl_countOf.calls (k2 + 1) _ _ l i c' _ GR.out GC.out HC.out).mono ?_; rintro e wc ⟨rfl, ⟨⟨nd, rfl⟩⟩⟩) | ((with_reducible refine gate_builtin (b := .append) (xs := #[.tmp 32, .tmp 34]) rfl ?_); at_builtin; refine Kd.R_append (Kd.int .i64) (w0 := wr) B1 rfl (.tmp 32) (.tmp 34) 22 3 (.int .i64 0) 8 rfl Tryd.underlying22 info3 rfl (by decide) (by omega) (.slice A l.length c) l i [.int .i64 i] (fun k => ¬ M k) (fun _ => False) rfl rfl ?aP (fun _ hk => hk.elim) ?aF ?aO ?aB ?aS ?aL ?_; (case aP => exact rfl); (case aB => exact (by repeat (first | exact Below.refl _ _ | apply pw_below_drewN | apply below_drew1))); (case aF => exact (fun k hk hm => absurd (GM.out k hm).1 (Nat.not_lt.mpr hk))); (case aO => exact (by (with_reducible repeat (first | apply Kd.R_alloc | apply Kd.R_drewN | apply Kd.R_drew)); exact GI.out.2.1)); (case aS => exact GI.out.2.2.2.2.2.2.2); (case aL => have := LM.out; omega); intro v1 w1 ho hb hg hat; rw [← Nl.out] at ho; obtain ⟨A1, c1, rfl⟩ := Kd.R_slice ho; have q1 := blk_grown (w := (wr.drewN nd)) GI.out.1 hg E1.out; have dl : _ = some _ := blk_cell q1 0; have df := blk_frozen q1 0; have HI3 := Aside0.mk (impl_parts.I.put q1 (blk_grown (w := (wr.drewN nd)) GI.out.2.2.1 hg E2.out) HG.out.2.2.2.2.1 (blk_grown (w := (wr.drewN nd)) GI.out.2.2.2.1 hg E3.out) (blk_grown (w := (wr.drewN nd)) GI.out.2.2.2.2.1 hg E4.out) HM.out (HM.out _ M _ _ GI.out.2.2.2.2.2.1 hb (fun k hk => hg.block k (GM.out k hk).1 (fun he => GI.out.2.1.1 k he.symm hk))) (fun k hk => ⟨Nat.lt_of_lt_of_le (GM.out k hk).1 hb.size, (GM.out k hk).2⟩) (GI.out.2.2.2.2.2.2.1.trans (Below.mono hb HG.out.2.2.2.2.2.1)) (Nat.le_trans GI.out.2.2.2.2.2.2.2 hb.size) HG.out.1 HG.out.2.2.2.2.2.1 (Kd.R_reads' ho).2.1 ho); have dy : _ = some _ := blk_cell HI3.out.try_ 0; clear q1 ho hb hg hat))
                    refine (IH.out k2 (by have := HK.out; omega) l1 (wrap64 (m + 1)) s1 s2 _ H2.out HI3.out).mono ?_
                    rintro e w3 ⟨rfl, hI4⟩
                    have HI4 := Aside0.mk hI4
                    clear hI4 dl df dy HI3
                    obtain ⟨⟨A3, c3, r1, r2, M3, r3, rs, rm⟩, ra, rt, ry, rl, rz⟩ := HI4.out
                    have el : _ = some _ := blk_cell r1 0
                    have ef := blk_frozen r1 0
                    have hn : l1.length = l.length + 1 := by rw [Nl.out]; simp
                    have hw : IntKind.i64.wrap ((l1.length : Int) - 1) = (l.length : Int) := by rw [i64_w]; have := LM.out; unfold wrap64; omega
                    obtain ⟨i0, hi0, _, _, _⟩ := info_parts info3
                    have hcut : ∀ W : World, (Instr.slice 22 (.slice A3 l1.length c3) none (some (.int .i64 (l.length : Int))) none).run Tryd.prog W = .ok (.slice A3 l.length c3) W := fun W => by
                      have := cut_to (P := Tryd.prog) 22 3 .i64 Tryd.underlying22 hi0 A3 l1.length c3 (l.length : Int) (by omega) (by omega) r2 W
                      rwa [Int.toNat_natCast] at this
                    have HI5 := Aside0.mk (impl_parts.I.put (l := l) (A := A3) (c := c3) r1 ra HG.out.2.2.2.2.1 rt ry HM.out rs rm rl rz HG.out.1 HG.out.2.2.2.2.2.1 (by omega) (by
                      have := Kd.R_take (m := l.length) r3 (by omega)
                      rwa [Nl.out, List.take_left] at this))
                    have hwn := Aside0.mk hn
                    clear r1 r2 r3 rm ra rt ry rs rl rz HI4 hi0 hn
                    go_wp2
                    go_roundg k2
                    case measure => omega
                    case rel => exact ⟨wrap64 (i + 1), s2, (by first | rfl | (simp; done) | (simp [*]; done)), H, ⟨by have := HK.out; omega⟩, HI5⟩
                  · rw [if_neg c5] at h
                    have c5b : (i == m) = false := beq_eq_false_iff_ne.mpr c5
                    clear c5
                    obtain ⟨s2, h2, h⟩ := Option.bind_eq_some_iff.mp h
                    rw [← Nl.out] at h2
                    have H2 := Aside0.mk h2
                    have H := Aside0.mk h
                    clear h h2
                    go_wp2_with (first | (go_at_call 55; refine (impl_countOf.calls (k2 + 1) _ _ l i c' _ GR.out GC.out HC.out).mono ?_; rintro e wc ⟨rfl, ⟨⟨nd, rfl⟩⟩⟩) | ((with_reducible refine gate_builtin (b := .append) (xs := #[.tmp 32, .tmp 34]) rfl ?_); at_builtin; refine Kd.R_append (Kd.int .i64) (w0 := wr) B1 rfl (.tmp 32) (.tmp 34) 22 3 (.int .i64 0) 8 rfl Tryd.underlying22 info3 rfl (by decide) (by omega) (.slice A l.length c) l i [.int .i64 i] (fun k => ¬ M k) (fun _ => False) rfl rfl ?aP (fun _ hk => hk.elim) ?aF ?aO ?aB ?aS ?aL ?_; (case aP => exact rfl); (case aB => exact (by repeat (first | exact Below.refl _ _ | apply pw_below_drewN | apply below_drew1))); (case aF => exact (fun k hk hm => absurd (GM.out k hm).1 (Nat.not_lt.mpr hk))); (case aO => exact (by (with_reducible repeat (first | apply Kd.R_alloc | apply Kd.R_drewN | apply Kd.R_drew)); exact GI.out.2.1)); (case aS => exact GI.out.2.2.2.2.2.2.2); (case aL => have := LM.out; omega); intro v1 w1 ho hb hg hat; rw [← Nl.out] at ho; obtain ⟨A1, c1, rfl⟩ := Kd.R_slice ho; have q1 := blk_grown (w := (wr.drewN nd)) GI.out.1 hg E1.out; have dl : _ = some _ := blk_cell q1 0; have df := blk_frozen q1 0; have HI3 := Aside0.mk (impl_parts.I.put q1 (blk_grown (w := (wr.drewN nd)) GI.out.2.2.1 hg E2.out) HG.out.2.2.2.2.1 (blk_grown (w := (wr.drewN nd)) GI.out.2.2.2.1 hg E3.out) (blk_grown (w := (wr.drewN nd)) GI.out.2.2.2.2.1 hg E4.out) HM.out (HM.out _ M _ _ GI.out.2.2.2.2.2.1 hb (fun k hk => hg.block k (GM.out k hk).1 (fun he => GI.out.2.1.1 k he.symm hk))) (fun k hk => ⟨Nat.lt_of_lt_of_le (GM.out k hk).1 hb.size, (GM.out k hk).2⟩) (GI.out.2.2.2.2.2.2.1.trans (Below.mono hb HG.out.2.2.2.2.2.1)) (Nat.le_trans GI.out.2.2.2.2.2.2.2 hb.size) HG.out.1 HG.out.2.2.2.2.2.1 (Kd.R_reads' ho).2.1 ho); have dy : _ = some _ := blk_cell HI3.out.try_ 0; clear q1 ho hb hg hat))
                    refine (IH.out k2 (by have := HK.out; omega) l1 m s1 s2 _ H2.out HI3.out).mono ?_
                    rintro e w3 ⟨rfl, hI4⟩
                    have HI4 := Aside0.mk hI4
                    clear hI4 dl df dy HI3
                    obtain ⟨⟨A3, c3, r1, r2, M3, r3, rs, rm⟩, ra, rt, ry, rl, rz⟩ := HI4.out
                    have el : _ = some _ := blk_cell r1 0
                    have ef := blk_frozen r1 0
                    have hn : l1.length = l.length + 1 := by rw [Nl.out]; simp
                    have hw : IntKind.i64.wrap ((l1.length : Int) - 1) = (l.length : Int) := by rw [i64_w]; have := LM.out; unfold wrap64; omega
                    obtain ⟨i0, hi0, _, _, _⟩ := info_parts info3
                    have hcut : ∀ W : World, (Instr.slice 22 (.slice A3 l1.length c3) none (some (.int .i64 (l.length : Int))) none).run Tryd.prog W = .ok (.slice A3 l.length c3) W := fun W => by
                      have := cut_to (P := Tryd.prog) 22 3 .i64 Tryd.underlying22 hi0 A3 l1.length c3 (l.length : Int) (by omega) (by omega) r2 W
                      rwa [Int.toNat_natCast] at this
                    have HI5 := Aside0.mk (impl_parts.I.put (l := l) (A := A3) (c := c3) r1 ra HG.out.2.2.2.2.1 rt ry HM.out rs rm rl rz HG.out.1 HG.out.2.2.2.2.2.1 (by omega) (by
                      have := Kd.R_take (m := l.length) r3 (by omega)
                      rwa [Nl.out, List.take_left] at this))
                    have hwn := Aside0.mk hn
                    clear r1 r2 r3 rm ra rt ry rs rl rz HI4 hi0 hn
                    go_wp2
                    go_roundg k2
                    case measure => omega
                    case rel => exact ⟨wrap64 (i + 1), s2, (by first | rfl | (simp; done) | (simp [*]; done)), H, ⟨by have := HK.out; omega⟩, HI5⟩
                · rw [if_neg c4] at h
                  exact absurd h (by simp)
            · rw [if_neg c2] at h
              have c2b : decide (0 ≤ i) = false := decide_eq_false c2
              clear c2
              cases k1 with
              | zero => exact absurd h (by simp [impl_parts.t])
              | succ k2 =>
              rw [impl_parts.t2] at h
              by_cases c4 : l.length < 1000
              · rw [if_pos c4] at h
                have LM := Aside0.mk c4
                clear c4
                obtain ⟨l1, hl1⟩ : ∃ y : List Int, y = l ++ [i] := ⟨_, rfl⟩
                have Nl := Aside0.mk hl1
                clear hl1
                by_cases c5 : i = m
                · rw [if_pos c5] at h
                  have c5b : (i == m) = true := beq_iff_eq.mpr c5
                  clear c5
                  obtain ⟨s2, h2, h⟩ := Option.bind_eq_some_iff.mp h
                  rw [← Nl.out] at h2
                  have H2 := Aside0.mk h2
                  have H := Aside0.mk h
                  clear h h2
                  go_wp2_with (first | ((with_reducible refine gate_builtin (b := .append) (xs := #[.tmp 32, .tmp 34]) rfl ?_); at_builtin; refine Kd.R_append (Kd.int .i64) (w0 := wr) B1 rfl (.tmp 32) (.tmp 34) 22 3 (.int .i64 0) 8 rfl Tryd.underlying22 info3 rfl (by decide) (by omega) (.slice A l.length c) l i [.int .i64 i] (fun k => ¬ M k) (fun _ => False) rfl rfl ?aP (fun _ hk => hk.elim) ?aF ?aO ?aB ?aS ?aL ?_; (case aP => exact rfl); (case aB => exact (by repeat (first | exact Below.refl _ _ | apply pw_below_drewN | apply below_drew1))); (case aF => exact (fun k hk hm => absurd (GM.out k hm).1 (Nat.not_lt.mpr hk))); (case aO => exact (by (with_reducible repeat (first | apply Kd.R_alloc | apply Kd.R_drewN | apply Kd.R_drew)); exact GI.out.2.1)); (case aS => exact GI.out.2.2.2.2.2.2.2); (case aL => have := LM.out; omega); intro v1 w1 ho hb hg hat; rw [← Nl.out] at ho; obtain ⟨A1, c1, rfl⟩ := Kd.R_slice ho; have q1 := blk_grown (w := wr) GI.out.1 hg E1.out; have dl : _ = some _ := blk_cell q1 0; have df := blk_frozen q1 0; have HI3 := Aside0.mk (impl_parts.I.put q1 (blk_grown (w := wr) GI.out.2.2.1 hg E2.out) HG.out.2.2.2.2.1 (blk_grown (w := wr) GI.out.2.2.2.1 hg E3.out) (blk_grown (w := wr) GI.out.2.2.2.2.1 hg E4.out) HM.out (HM.out _ M _ _ GI.out.2.2.2.2.2.1 hb (fun k hk => hg.block k (GM.out k hk).1 (fun he => GI.out.2.1.1 k he.symm hk))) (fun k hk => ⟨Nat.lt_of_lt_of_le (GM.out k hk).1 hb.size, (GM.out k hk).2⟩) (GI.out.2.2.2.2.2.2.1.trans (Below.mono hb HG.out.2.2.2.2.2.1)) (Nat.le_trans GI.out.2.2.2.2.2.2.2 hb.size) HG.out.1 HG.out.2.2.2.2.2.1 (Kd.R_reads' ho).2.1 ho); have dy : _ = some _ := blk_cell HI3.out.try_ 0; clear q1 ho hb hg hat))
                  refine (IH.out k2 (by have := HK.out; omega) l1 (wrap64 (m + 1)) s1 s2 _ H2.out HI3.out).mono ?_
                  rintro e w3 ⟨rfl, hI4⟩
                  have HI4 := Aside0.mk hI4
                  clear hI4 dl df dy HI3
                  obtain ⟨⟨A3, c3, r1, r2, M3, r3, rs, rm⟩, ra, rt, ry, rl, rz⟩ := HI4.out
                  have el : _ = some _ := blk_cell r1 0
                  have ef := blk_frozen r1 0
                  have hn : l1.length = l.length + 1 := by rw [Nl.out]; simp
                  have hw : IntKind.i64.wrap ((l1.length : Int) - 1) = (l.length : Int) := by rw [i64_w]; have := LM.out; unfold wrap64; omega
                  obtain ⟨i0, hi0, _, _, _⟩ := info_parts info3
                  have hcut : ∀ W : World, (Instr.slice 22 (.slice A3 l1.length c3) none (some (.int .i64 (l.length : Int))) none).run Tryd.prog W = .ok (.slice A3 l.length c3) W := fun W => by
                    have := cut_to (P := Tryd.prog) 22 3 .i64 Tryd.underlying22 hi0 A3 l1.length c3 (l.length : Int) (by omega) (by omega) r2 W
                    rwa [Int.toNat_natCast] at this
                  have HI5 := Aside0.mk (impl_parts.I.put (l := l) (A := A3) (c := c3) r1 ra HG.out.2.2.2.2.1 rt ry HM.out rs rm rl rz HG.out.1 HG.out.2.2.2.2.2.1 (by omega) (by
                    have := Kd.R_take (m := l.length) r3 (by omega)
                    rwa [Nl.out, List.take_left] at this))
                  have hwn := Aside0.mk hn
                  clear r1 r2 r3 rm ra rt ry rs rl rz HI4 hi0 hn
                  go_wp2
                  go_roundg k2
                  case measure => omega
                  case rel => exact ⟨wrap64 (i + 1), s2, (by first | rfl | (simp; done) | (simp [*]; done)), H, ⟨by have := HK.out; omega⟩, HI5⟩
                · rw [if_neg c5] at h
                  have c5b : (i == m) = false := beq_eq_false_iff_ne.mpr c5
                  clear c5
                  obtain ⟨s2, h2, h⟩ := Option.bind_eq_some_iff.mp h
                  rw [← Nl.out] at h2
                  have H2 := Aside0.mk h2
                  have H := Aside0.mk h
                  clear h h2
                  go_wp2_with (first | ((with_reducible refine gate_builtin (b := .append) (xs := #[.tmp 32, .tmp 34]) rfl ?_); at_builtin; refine Kd.R_append (Kd.int .i64) (w0 := wr) B1 rfl (.tmp 32) (.tmp 34) 22 3 (.int .i64 0) 8 rfl Tryd.underlying22 info3 rfl (by decide) (by omega) (.slice A l.length c) l i [.int .i64 i] (fun k => ¬ M k) (fun _ => False) rfl rfl ?aP (fun _ hk => hk.elim) ?aF ?aO ?aB ?aS ?aL ?_; (case aP => exact rfl); (case aB => exact (by repeat (first | exact Below.refl _ _ | apply pw_below_drewN | apply below_drew1))); (case aF => exact (fun k hk hm => absurd (GM.out k hm).1 (Nat.not_lt.mpr hk))); (case aO => exact (by (with_reducible repeat (first | apply Kd.R_alloc | apply Kd.R_drewN | apply Kd.R_drew)); exact GI.out.2.1)); (case aS => exact GI.out.2.2.2.2.2.2.2); (case aL => have := LM.out; omega); intro v1 w1 ho hb hg hat; rw [← Nl.out] at ho; obtain ⟨A1, c1, rfl⟩ := Kd.R_slice ho; have q1 := blk_grown (w := wr) GI.out.1 hg E1.out; have dl : _ = some _ := blk_cell q1 0; have df := blk_frozen q1 0; have HI3 := Aside0.mk (impl_parts.I.put q1 (blk_grown (w := wr) GI.out.2.2.1 hg E2.out) HG.out.2.2.2.2.1 (blk_grown (w := wr) GI.out.2.2.2.1 hg E3.out) (blk_grown (w := wr) GI.out.2.2.2.2.1 hg E4.out) HM.out (HM.out _ M _ _ GI.out.2.2.2.2.2.1 hb (fun k hk => hg.block k (GM.out k hk).1 (fun he => GI.out.2.1.1 k he.symm hk))) (fun k hk => ⟨Nat.lt_of_lt_of_le (GM.out k hk).1 hb.size, (GM.out k hk).2⟩) (GI.out.2.2.2.2.2.2.1.trans (Below.mono hb HG.out.2.2.2.2.2.1)) (Nat.le_trans GI.out.2.2.2.2.2.2.2 hb.size) HG.out.1 HG.out.2.2.2.2.2.1 (Kd.R_reads' ho).2.1 ho); have dy : _ = some _ := blk_cell HI3.out.try_ 0; clear q1 ho hb hg hat))
                  refine (IH.out k2 (by have := HK.out; omega) l1 m s1 s2 _ H2.out HI3.out).mono ?_
                  rintro e w3 ⟨rfl, hI4⟩
                  have HI4 := Aside0.mk hI4
                  clear hI4 dl df dy HI3
                  obtain ⟨⟨A3, c3, r1, r2, M3, r3, rs, rm⟩, ra, rt, ry, rl, rz⟩ := HI4.out
                  have el : _ = some _ := blk_cell r1 0
                  have ef := blk_frozen r1 0
                  have hn : l1.length = l.length + 1 := by rw [Nl.out]; simp
                  have hw : IntKind.i64.wrap ((l1.length : Int) - 1) = (l.length : Int) := by rw [i64_w]; have := LM.out; unfold wrap64; omega
                  obtain ⟨i0, hi0, _, _, _⟩ := info_parts info3
                  have hcut : ∀ W : World, (Instr.slice 22 (.slice A3 l1.length c3) none (some (.int .i64 (l.length : Int))) none).run Tryd.prog W = .ok (.slice A3 l.length c3) W := fun W => by
                    have := cut_to (P := Tryd.prog) 22 3 .i64 Tryd.underlying22 hi0 A3 l1.length c3 (l.length : Int) (by omega) (by omega) r2 W
                    rwa [Int.toNat_natCast] at this
                  have HI5 := Aside0.mk (impl_parts.I.put (l := l) (A := A3) (c := c3) r1 ra HG.out.2.2.2.2.1 rt ry HM.out rs rm rl rz HG.out.1 HG.out.2.2.2.2.2.1 (by omega) (by
                    have := Kd.R_take (m := l.length) r3 (by omega)
                    rwa [Nl.out, List.take_left] at this))
                  have hwn := Aside0.mk hn
                  clear r1 r2 r3 rm ra rt ry rs rl rz HI4 hi0 hn
                  go_wp2
                  go_roundg k2
                  case measure => omega
                  case rel => exact ⟨wrap64 (i + 1), s2, (by first | rfl | (simp; done) | (simp [*]; done)), H, ⟨by have := HK.out; omega⟩, HI5⟩
              · rw [if_neg c4] at h
                exact absurd h (by simp)
          · rw [if_neg c1] at h
            have c1b : decide (i ≤ m) = false := decide_eq_false c1
            clear c1
            obtain rfl := Option.some.inj h
            go_wp2
            go_end0
            exact ⟨rfl, HI.out⟩
theorem impl_parts.heap_new {W : World} {o : Obj} {g : Nat} (h : g = W.heap.size) : (W.alloc o).heap[g]? = some o := by
  subst h
  exact heap_alloc_new W o
set_option maxHeartbeats 8000000 in
set_option maxRecDepth 100000 in
/-- All part lists, told one behind the other to a function value. -/
theorem impl_parts.callsM {S : Type} (step : S → List Int → Option S) (K : Nat) (fn : Func) (hK : Tryd.prog.funcs[K]? = some fn) (hKn : (fn.name == "runtime.NumGoroutine") = false) (hKb : fn.body.isSome = true) (caps : Array Value) (B0 : Nat) (R : S → (Nat → Prop) → World → Prop)
    (k : Nat) (A0 : Option Addr) (c0 : Nat) (a : List Int) (s0 s1 : S) (w : World)
    (hmove : ∀ s M w1 w2, R s M w1 → Below w.heap.size w1 w2 → (∀ k, M k → w2.heap[k]? = w1.heap[k]?) → R s M w2)
    (htell : ∀ s s' M xs A c w1, R s M w1 → (∀ k, M k → k < w1.heap.size) → w.heap.size ≤ w1.heap.size → Kd.C (Kd.int .i64) w1 A xs.length xs → xs.length ≤ c → step s xs = some s' → Calls Tryd.prog K (#[.slice A xs.length c] ++ caps) w1 fun e w2 => e = .returned (.tuple #[]) ∧ (∃ M', R s' M' w2 ∧ ∀ k, M' k → (M k ∨ w1.heap.size ≤ k) ∧ k < w2.heap.size) ∧ Below B0 w1 w2 ∧ ∀ k, w.heap.size ≤ k → k < w1.heap.size → w2.heap[k]? = w1.heap[k]?)
    (hB0 : B0 ≤ w.heap.size) (hr0 : ∀ w', Below B0 w w' → Kd.C (Kd.int .i64) w' A0 a.length a) (hc0 : a.length ≤ c0) (hs : R s0 (fun _ => False) w) (h : impl_parts.f step k a s0 = some s1) :
    Calls Tryd.prog 34 #[.slice A0 a.length c0, .func (.func K) #[] caps] w fun e w' => e = .returned (.tuple #[]) ∧ (∃ M, R s1 M w') ∧ Below B0 w w' := by
  unfold impl_parts.f at h
  by_cases hl : a.length ≤ 1000
  · rw [if_pos hl] at h
    have HT := Aside0.mk (impl_parts.tries step K fn hK hKn hKb caps a A0 c0 B0 w.heap.size (w.heap.size + 1 + 1 + 1) w.heap.size (w.heap.size + 1) (w.heap.size + 1 + 1 + 1 + 1) R w hmove htell (by omega) (by omega) (by omega) (by omega) (by omega) hB0 hr0 hc0 k [] 0 s0 s1)
    have H := Aside0.mk h
    have HM := Aside0.mk hmove
    have HS := Aside0.mk hs
    have HB0 := Aside0.mk hB0
    clear h hmove htell hB0 hr0 hc0 hs hK hKn hKb
    obtain ⟨i0, hi0, hz0, hsz0, hby0⟩ := info_parts info3
    have hmk : ∀ W : World, (Instr.makeSlice 22 (.int .i64 0) (.int .i64 (a.length : Int))).run Tryd.prog W = .ok (.slice (some ⟨W.heap.size, 0, none⟩) 0 a.length) (W.alloc (.cells (madeCells #[.int .i64 0] a.length) 3)) := fun W => by
      have := run_make (P := Tryd.prog) W 22 3 i0 (.int .i64 0) Tryd.underlying22 hi0 hz0 .i64 .i64 0 (a.length : Int) (by omega) (by omega) (by rw [hby0]; omega) (by omega)
      rwa [hsz0, Nat.mul_one, Int.toNat_natCast] at this
    clear hi0 hz0 hsz0 hby0
    have hmf : ∀ (fn : Fn) (first cap : Array Value) (w : World), (Instr.makeFunc fn first cap).run Tryd.prog w = .ok (.func fn first cap) w := fun _ _ _ _ => rfl
    have hsf : ∀ (w : World) (a : Addr) (fn : Fn) (first cap : Array Value), (Go.store a (.func fn first cap)).run Tryd.prog w = stored Tryd.prog w a (.func fn first cap) .plain := fun w a fn first cap => run_store _ w a _ _ rfl
    have HL := Aside0.mk hl
    clear hl
    have by_ : (((((w.alloc (Obj.cells #[.slice A0 a.length c0] 22)).alloc (Obj.cells #[.func (.func K) #[] caps] 57)).alloc (Obj.cells (madeCells #[.int .i64 0] a.length) 3)).alloc (Obj.cells #[.slice (some ⟨w.heap.size + 1 + 1, 0, none⟩) 0 a.length] 22)).alloc (Obj.cells #[.nilFunc] 66)).heap[w.heap.size + 1 + 1 + 1 + 1]? = some (Obj.cells #[.nilFunc] 66) := impl_parts.heap_new (by simp)
    have cy : _ = some _ := blk_cell by_ 0
    have fy := blk_frozen by_ 0
    have BY := Aside0.mk by_
    clear by_
    go_enter Tryd.func34, Tryd.ntmps34
    go_wp2_with fail
    have hb : Below w.heap.size w _ := below_alloc (below_alloc (below_alloc (below_alloc (below_alloc (Below.refl w.heap.size w) (Obj.cells #[.slice A0 a.length c0] 22)) (Obj.cells #[.func (.func K) #[] caps] 57)) (Obj.cells (madeCells #[.int .i64 0] a.length) 3)) (Obj.cells #[.slice (some ⟨w.heap.size + 1 + 1, 0, none⟩) 0 a.length] 22)) (Obj.cells #[.func (.func 53) #[] #[.pointer (some ⟨w.heap.size + 1 + 1 + 1, 0, none⟩), .pointer (some ⟨w.heap.size, 0, none⟩), .pointer (some ⟨w.heap.size + 1, 0, none⟩), .pointer (some ⟨w.heap.size + 1 + 1 + 1 + 1, 0, none⟩)]] 66)
    have hrow : Kd.R (Kd.int .i64) 3 (((w.alloc (Obj.cells #[.slice A0 a.length c0] 22)).alloc (Obj.cells #[.func (.func K) #[] caps] 57)).alloc (Obj.cells (madeCells #[.int .i64 0] a.length) 3)) w.heap.size (fun _ => True) (.slice (some ⟨w.heap.size + 1 + 1, 0, none⟩) ([] : List Int).length a.length) [] := by
      have := World.ownsRow_made (e := 3) (size := 1) (base := w.heap.size) ((w.alloc (Obj.cells #[.slice A0 a.length c0] 22)).alloc (Obj.cells #[.func (.func K) #[] caps] 57)) (madeCells #[.int .i64 0] a.length) a.length (by simp; omega) (by have := HL.out; unfold maxLen; omega) (by rw [size_madeCells]; omega)
      exact Kd.R_of_own (by have h2 := this; simp at h2; exact h2) (fun _ _ => trivial)
    refine (HT.out _ H.out ⟨⟨_, _, ?_, Nat.zero_le _, fun _ => False, Kd.R_mono (Kd.R_alloc (Kd.R_alloc hrow _) _) (fun _ _ h => h), HM.out _ _ _ _ HS.out hb (fun _ h => h.elim), fun _ h => h.elim⟩, ?_, ?_, ?_, Below.mono hb HB0.out, hb.size⟩).mono ?_
    · repeat (first | (refine impl_parts.heap_new ?_; simp; done) | refine blk_alloc ?_ _)
    · repeat (first | (refine impl_parts.heap_new ?_; simp; done) | refine blk_alloc ?_ _)
    · repeat (first | (refine impl_parts.heap_new ?_; simp; done) | refine blk_alloc ?_ _)
    · repeat (first | (refine impl_parts.heap_new ?_; simp; done) | refine blk_alloc ?_ _)
    rintro e w1 ⟨rfl, hI⟩
    have HI := Aside0.mk hI
    clear hI hb hrow
    go_wp2
    go_end0
    exact ⟨rfl, HI.out.state, HI.out.low⟩
  · rw [if_neg hl] at h
    exact absurd h (by simp)
/-- The same, where the state keeps no block of its own. -/
theorem impl_parts.calls {S : Type} (step : S → List Int → Option S) (K : Nat) (fn : Func) (hK : Tryd.prog.funcs[K]? = some fn) (hKn : (fn.name == "runtime.NumGoroutine") = false) (hKb : fn.body.isSome = true) (caps : Array Value) (B0 : Nat) (R : S → World → Prop)
    (k : Nat) (A0 : Option Addr) (c0 : Nat) (a : List Int) (s0 s1 : S) (w : World)
    (hmove : ∀ s w1 w2, R s w1 → Below w.heap.size w1 w2 → R s w2)
    (htell : ∀ s s' xs A c w1, R s w1 → w.heap.size ≤ w1.heap.size → Kd.C (Kd.int .i64) w1 A xs.length xs → xs.length ≤ c → step s xs = some s' → Calls Tryd.prog K (#[.slice A xs.length c] ++ caps) w1 fun e w2 => e = .returned (.tuple #[]) ∧ R s' w2 ∧ Below B0 w1 w2 ∧ ∀ k, w.heap.size ≤ k → k < w1.heap.size → w2.heap[k]? = w1.heap[k]?)
    (hB0 : B0 ≤ w.heap.size) (hr0 : ∀ w', Below B0 w w' → Kd.C (Kd.int .i64) w' A0 a.length a) (hc0 : a.length ≤ c0) (hs : R s0 w) (h : impl_parts.f step k a s0 = some s1) :
    Calls Tryd.prog 34 #[.slice A0 a.length c0, .func (.func K) #[] caps] w fun e w' => e = .returned (.tuple #[]) ∧ R s1 w' ∧ Below B0 w w' := by
  refine (impl_parts.callsM step K fn hK hKn hKb caps B0 (fun s M w => R s w ∧ ∀ k, ¬ M k) k A0 c0 a s0 s1 w (fun s M w1 w2 h1 h2 _ => ⟨hmove s w1 w2 h1.1 h2, h1.2⟩) ?_ hB0 hr0 hc0 ⟨hs, fun _ h => h⟩ h).mono ?_
  · intro s s' M xs A c w1 h1 _ h2 h3 h4 h5
    refine (htell s s' xs A c w1 h1.1 h2 h3 h4 h5).mono ?_
    rintro e w2 ⟨h1, h2, h3, h4⟩
    exact ⟨h1, ⟨fun _ => False, ⟨h2, fun _ h => h⟩, fun _ h => h.elim⟩, h3, h4⟩
  · rintro e w2 ⟨h1, ⟨M, h2, _⟩, h3⟩
    exact ⟨h1, h2, h3⟩

/-! ### slices_Max_int_int: function 29, by hand -/
def slices_Max_int_int.l0 : Nat → List Int → Int → Int → Option Int
  | 0, _, _, _ => none
  | k + 1, l, m, i => if i < (l.length : Int) then (if 0 ≤ i then slices_Max_int_int.l0 k l (mx m (rd l i)) (wrap64 (i + 1)) else none) else some m
def slices_Max_int_int.f (k : Nat) (l : List Int) : Option Int := if 0 < l.length then slices_Max_int_int.l0 k l (rd l 0) 1 else none
theorem slices_Max_int_int.mono_l : ∀ k, (∀ y0 y1 y2, LeO (slices_Max_int_int.l0 k y0 y1 y2) (slices_Max_int_int.l0 (k + 1) y0 y1 y2))
  | 0 => fun _ _ _ r h => by simp [slices_Max_int_int.l0] at h
  | k + 1 => by
    have ih0 := slices_Max_int_int.mono_l k
    intro y0 y1 y2
    unfold slices_Max_int_int.l0
    exact LeO.ite (LeO.ite (ih0 _ _ _) (LeO.refl _)) (LeO.refl _)
theorem slices_Max_int_int.mono : ∀ a0 k, LeO (slices_Max_int_int.f k a0) (slices_Max_int_int.f (k + 1) a0) := fun a0 k => LeO.ite (slices_Max_int_int.mono_l k _ _ _) (LeO.refl _)
set_option maxHeartbeats 4000000 in
set_option maxRecDepth 100000 in
theorem slices_Max_int_int.calls (k : Nat) (A0 : Option Addr) (c0 : Nat) (l0 : List Int) (r : Int) (w : World) (hr0 : Kd.C (Kd.int .i64) w A0 l0.length l0) (hc0 : l0.length ≤ c0) (h : slices_Max_int_int.f k l0 = some r) :
    Calls Tryd.prog 29 #[.slice A0 l0.length c0] w fun e w' => e = .returned (.int .i64 r) ∧ Drawn0 w w' := by
  have HR0 := Aside0.mk hr0
  have HC0 := Aside0.mk hc0
  clear hc0
  unfold slices_Max_int_int.f at h
  by_cases c1 : 0 < l0.length
  · rw [if_pos c1] at h
    have c1b : decide ((l0.length : Int) < 1) = false := decide_eq_false (by omega)
    obtain ⟨ad, rfl, hx⟩ := Kd.at_int hr0 0 (by omega) (by omega)
    rw [show ((0 : Int)).toNat = 0 from rfl, Addr.add_zero'] at hx
    have p0 : (0 : Int) < (l0.length : Int) := by omega
    have HP := Aside0.mk c1
    clear hr0 c1
    have H' := Aside0.mk h
    clear h
    go_enter Tryd.func29, Tryd.ntmps29
    go_wp2
    go_loopg [3, 4] k (fun kq v3 v4 w' => ∃ (m i : Int), v3 = .int .i64 m ∧ v4 = .int .i64 i ∧ Aside0 (slices_Max_int_int.l0 kq l0 m i = some r) ∧ Aside0 (kq ≤ k) ∧ Drawn0 w w')
    case atStart => exact ⟨rd l0 0, 1, (by first | rfl | (simp; done) | (simp [*]; done)), (by first | rfl | (simp; done) | (simp [*]; done)), H', ⟨Nat.le_refl _⟩, by repeat (first | exact Drawn0.refl _ | apply Drawn0.step)⟩
    case round =>
      clear H' hx
      try clear c1b
      obtain ⟨m, i, rfl, rfl, HA, HK, ⟨nd, rfl⟩⟩ := hrel
      cases gk with
      | zero => exact absurd HA.out (by simp [slices_Max_int_int.l0])
      | succ k1 =>
        have H := HA.out
        clear HA
        simp only [slices_Max_int_int.l0] at H
        by_cases c4 : i < (l0.length : Int)
        · rw [if_pos c4] at H
          have c4b0 : decide (i < (l0.length : Int)) = true := decide_eq_true c4
          by_cases c5 : 0 ≤ i
          · rw [if_pos c5] at H
            have c5b0 : decide (0 ≤ i) = true := decide_eq_true c5
            obtain ⟨ad2, e2, hx2⟩ := Kd.at_int HR0.out i c5 c4
            cases e2
            obtain ⟨x, hxx⟩ : ∃ x, x = rd l0 i := ⟨_, rfl⟩
            rw [← hxx] at H hx2
            obtain ⟨jm, hjm⟩ : ∃ j_ : Int, (mx m x) = j_ := ⟨_, rfl⟩
            rw [hjm] at H
            have hjm_ : (if m < x then x else m) = jm := hjm
            have H' := Aside0.mk H
            clear H hxx
            go_wp2
            go_roundg k1
            case measure => omega
            case rel => exact ⟨jm, wrap64 (i + 1), (by first | rfl | (simp; done) | (simp only [← hjm] <;> (first | rfl | simp)) | (simp [*]; done)), (by first | rfl | (simp; done) | (simp [*]; done)), H', ⟨by have := HK.out; omega⟩, by repeat (first | exact Drawn0.refl _ | exact ⟨_, rfl⟩ | apply Drawn0.step)⟩
          · rw [if_neg c5] at H
            exact absurd H (by simp)
        · rw [if_neg c4] at H
          have c4b0 : decide (i < (l0.length : Int)) = false := decide_eq_false c4
          obtain rfl := Option.some.inj H
          go_wp2
          go_ret
          exact ⟨by first | rfl | (simp; done), by repeat (first | exact Drawn0.refl _ | exact ⟨_, rfl⟩ | apply Drawn0.step)⟩
  · rw [if_neg c1] at h
    exact absurd h (by simp)

-- NOT PRINTED: function 35 (impl_PartMost_1)

/-! ### impl_PartMost: function 14, by hand -/
def impl_PartMost.step (k : Nat) (s : Int) (xs : List Int) : Option Int := (slices_Max_int_int.f k xs).bind fun m => some (mx s (wrap64 (m + 1)))
def impl_PartMost.f (k : Nat) (l : List Int) : Option (Int × Bool) :=
  (impl_StickIn.f k l).bind fun t => if t = true then ((impl_parts.f (impl_PartMost.step k) k l 0).bind fun r => some (r, true)) else some (0, false)
theorem impl_PartMost.mono_s (k : Nat) : ∀ s l, LeO (impl_PartMost.step k s l) (impl_PartMost.step (k + 1) s l) := fun _ _ => LeO.bind (slices_Max_int_int.mono _ _) (fun _ => LeO.refl _)
theorem impl_PartMost.mono : ∀ a0 k, LeO (impl_PartMost.f k a0) (impl_PartMost.f (k + 1) a0) := by
  intro a0 k
  unfold impl_PartMost.f
  exact LeO.bind (impl_StickIn.mono _ _) (fun _ => LeO.ite (LeO.bind (impl_parts.mono (impl_PartMost.mono_s k) _ _ _) (fun _ => LeO.refl _)) (LeO.refl _))
theorem impl_PartMost.heap_new {W : World} {o : Obj} {g : Nat} (h : g = W.heap.size) : (W.alloc o).heap[g]? = some o := by
  subst h
  exact heap_alloc_new W o
/-- What holds between the calls of the function that is told: the number's own cell. -/
def impl_PartMost.R (A0 : Option Addr) (n0 c0 g gb : Nat) (w0 : World) (s : Int) (w1 : World) : Prop := w1.heap[g]? = some (.cells #[.int .i64 s] 3 (0, 0)) ∧ Below w0.heap.size w0 w1
theorem impl_PartMost.moves {A0 : Option Addr} {n0 c0 g gb B1 : Nat} {w0 w1 w2 : World} {s : Int} (h : impl_PartMost.R A0 n0 c0 g gb w0 s w1) (hb : Below B1 w1 w2) (h1 : g < B1) (_ : gb < B1) (h3 : w0.heap.size ≤ B1) : impl_PartMost.R A0 n0 c0 g gb w0 s w2 :=
  ⟨(hb.block _ h1).trans h.1, h.2.trans (Below.mono hb h3)⟩
set_option maxHeartbeats 1000000 in
set_option maxRecDepth 100000 in
theorem impl_PartMost.tell (k : Nat) (l0 : List Int) (A0 : Option Addr) (c0 g gb : Nat) (w0 : World) (B1 : Nat) (s s' : Int) (xs : List Int) (A : Option Addr) (c : Nat) (w1 : World) (_hr0 : ∀ w', Below w0.heap.size w0 w' → Kd.C (Kd.int .i64) w' A0 l0.length l0) (_hc0 : l0.length ≤ c0) (hg0 : w0.heap.size ≤ g) (_hgb : w0.heap.size ≤ gb) (hg : g < B1) (hR : impl_PartMost.R A0 l0.length c0 g gb w0 s w1) (hz : B1 ≤ w1.heap.size)
    (hx : Kd.C (Kd.int .i64) w1 A xs.length xs) (hc : xs.length ≤ c) (h : impl_PartMost.step k s xs = some s') :
    Calls Tryd.prog 35 (#[.slice A xs.length c] ++ #[.pointer (some ⟨g, 0, none⟩)]) w1 fun e w2 => e = .returned (.tuple #[]) ∧ impl_PartMost.R A0 l0.length c0 g gb w0 s' w2 ∧ Below w0.heap.size w1 w2 ∧ ∀ k, B1 ≤ k → k < w1.heap.size → w2.heap[k]? = w1.heap[k]? := by
  show Calls Tryd.prog 35 #[.slice A xs.length c, .pointer (some ⟨g, 0, none⟩)] w1 _
  obtain ⟨m, h1, h⟩ := Option.bind_eq_some_iff.mp h
  have h := Option.some.inj h
  obtain ⟨hR1, hR2⟩ := hR
  obtain ⟨y, hy⟩ : ∃ y, wrap64 (m + 1) = y := ⟨_, rfl⟩
  rw [hy] at h
  have hyw : IntKind.i64.wrap (m + 1) = y := (i64_w _).trans hy
  have hm_ : (if s < y then y else s) = s' := h
  have H1 := Aside0.mk h1
  have HX := Aside0.mk hx
  have HC := Aside0.mk hc
  have HR1 := Aside0.mk hR1
  have HR2 := Aside0.mk hR2
  have HG := Aside0.mk (And.intro hg0 (And.intro hg hz))
  have c0_ : _ = some _ := blk_cell hR1 0
  have f0_ := blk_frozen hR1 0
  clear h1 hx hc hR1 hR2 hg0 hg hz h _hr0 _hc0 _hgb
  go_enter Tryd.func35, Tryd.ntmps35
  go_region_with (first | (go_at_call 29; refine (slices_Max_int_int.calls k _ _ xs m _ (by repeat (first | exact HX.out | (with_reducible refine Kd.C_drewN ?_ _) | (with_reducible refine Kd.C_drew ?_))) HC.out H1.out).mono ?_; rintro e w2 ⟨rfl, ⟨⟨n, rfl⟩⟩⟩))
  all_goals (try go_wp2)
  all_goals go_end0
  all_goals exact ⟨rfl, ⟨blk_put (blk_drewN HR1.out _) 0 _ (by simp [hm_]), (pw_below_drewN HR2.out _).setCell HG.out.1 _⟩, (pw_below_drewN (Below.refl _ _) _).setCell HG.out.1 _, fun k h1 h2 => Below.heap_setCell _ _ _ k (by have := HG.out.2.1; simp; omega)⟩
set_option maxHeartbeats 4000000 in
set_option maxRecDepth 100000 in
theorem impl_PartMost.calls (k : Nat) (A0 : Option Addr) (c0 : Nat) (l0 : List Int) (r1 : Int) (r2 : Bool) (w : World) (hr0 : Kd.C (Kd.int .i64) w A0 l0.length l0) (hc0 : l0.length ≤ c0) (h : impl_PartMost.f k l0 = some (r1, r2)) :
    Calls Tryd.prog 14 #[.slice A0 l0.length c0] w fun e w' => e = .returned (.tuple #[.int .i64 r1, .bool r2]) ∧ Below w.heap.size w w' := by
  have HR0 := Aside0.mk hr0
  have HC0 := Aside0.mk hc0
  clear hr0 hc0
  have HB := Aside0.mk (Below.refl w.heap.size w)
  obtain ⟨t, h1, h⟩ := Option.bind_eq_some_iff.mp h
  have A1 := Aside0.mk h1
  clear h1
  by_cases c3 : t = true
  · subst c3
    rw [if_pos rfl] at h
    obtain ⟨r, h3, h⟩ := Option.bind_eq_some_iff.mp h
    simp only [Option.some.injEq, Prod.mk.injEq] at h
    obtain ⟨rfl, rfl⟩ := h
    have A3 := Aside0.mk h3
    clear h3
    have hmf : ∀ (fn : Fn) (first cap : Array Value) (w : World), (Instr.makeFunc fn first cap).run Tryd.prog w = .ok (.func fn first cap) w := fun _ _ _ _ => rfl
    have ca : ∀ m, ((w.drewN m).alloc (Obj.cells #[.int .i64 0] 3)).cell? ⟨w.heap.size, 0, none⟩ = some (.int .i64 0) := fun m => blk_cell (impl_PartMost.heap_new (by simp)) 0
    have fa : ∀ m, ((w.drewN m).alloc (Obj.cells #[.int .i64 0] 3)).frozen? ⟨w.heap.size, 0, none⟩ = false := fun m => blk_frozen (impl_PartMost.heap_new (by simp)) 0
    have hb0 : ∀ m, Below w.heap.size w (((w.drewN m).alloc (Obj.cells #[.int .i64 0] 3)).setCell ⟨w.heap.size, 0, none⟩ (.int .i64 0)) := fun m => (below_alloc (pw_below_drewN (Below.refl w.heap.size w) m) _).setCell (Nat.le_refl _) _
    have HBM := Aside0.mk hb0
    clear hb0
    go_enter Tryd.func14, Tryd.ntmps14
    go_wp2_with (first
      | (go_at_call 24; refine (impl_StickIn.calls k _ _ l0 true _ (by repeat (first | exact HR0.out | (with_reducible refine Kd.C_alloc ?_ _) | (with_reducible refine Kd.C_drewN ?_ _) | (with_reducible refine Kd.C_drew ?_))) HC0.out A1.out).mono ?_; rintro e w1 ⟨rfl, ⟨⟨n, rfl⟩⟩⟩)
      | (go_at_call 34; refine (impl_parts.calls (impl_PartMost.step k) 35 _ Tryd.func35 (by kernel_rfl) rfl #[.pointer (some ⟨w.heap.size, 0, none⟩)] w.heap.size (impl_PartMost.R A0 l0.length c0 (w.heap.size) w.heap.size w) k A0 c0 l0 0 r _ ?hm ?ht ?hB ?hr HC0.out ?hs A3.out).mono ?_; (case hm => exact fun s w1 w2 h1 h2 => impl_PartMost.moves h1 h2 (by simp; try omega) (by simp; try omega) (by simp; try omega)); (case ht => exact fun s s' xs A c w1 h1 hz hx hc h2 => impl_PartMost.tell k l0 A0 c0 _ _ w _ s s' xs A c w1 (fun w' hb => Kd.C_below HR0.out hb) HC0.out (by omega) (by omega) (by simp; try omega) h1 hz hx hc h2); (case hB => simp; try omega); (case hr => exact fun w' hb => Kd.C_below HR0.out (Below.trans (HBM.out _) hb)); (case hs => exact ⟨blk_put (impl_PartMost.heap_new (by simp)) 0 _ rfl, HBM.out _⟩); rintro e w2 ⟨rfl, hs, hb⟩; have c2 := blk_cell hs.1 0; have HB2 := Aside0.mk (Below.trans (HBM.out _) hb); clear hb hs))
    go_ret2
    exact ⟨rfl, HB2.out⟩
  · replace c3 := Bool.eq_false_iff.mpr c3
    subst c3
    rw [if_neg (by decide)] at h
    simp only [Option.some.injEq, Prod.mk.injEq] at h
    obtain ⟨rfl, rfl⟩ := h
    go_enter Tryd.func14, Tryd.ntmps14
    go_wp2_with (first
      | (go_at_call 24; refine (impl_StickIn.calls k _ _ l0 false _ (by repeat (first | exact HR0.out | (with_reducible refine Kd.C_alloc ?_ _) | (with_reducible refine Kd.C_drewN ?_ _) | (with_reducible refine Kd.C_drew ?_))) HC0.out A1.out).mono ?_; rintro e w1 ⟨rfl, ⟨⟨n, rfl⟩⟩⟩))
    go_ret2
    exact ⟨rfl, by repeat (first | (with_reducible first | exact HB.out | apply below_alloc | apply pw_below_drewN | apply below_drew1) | exact HB.out)⟩

/-! ### slices_Clone_int_int: function 40, by hand -/
def slices_Clone_int_int.f (_k : Nat) (l : List Int) : Option (List Int) := if 0 < l.length then (if l.length < 1000 then some ([] ++ l) else none) else none
theorem slices_Clone_int_int.mono : ∀ a0 k, LeO (slices_Clone_int_int.f k a0) (slices_Clone_int_int.f (k + 1) a0) := fun _ _ => LeO.refl _
set_option maxHeartbeats 4000000 in
set_option maxRecDepth 100000 in
theorem slices_Clone_int_int.calls (k : Nat) (A0 : Option Addr) (c0 : Nat) (l0 : List Int) (r : List Int) (w : World) (hr0 : Kd.C (Kd.int .i64) w A0 l0.length l0) (hc0 : l0.length ≤ c0) (h : slices_Clone_int_int.f k l0 = some r) :
    Calls Tryd.prog 40 #[.slice A0 l0.length c0] w fun e w' => ∃ v0_ : Value, e = .returned (v0_) ∧ Kd.R (Kd.int .i64) 3 w' w.heap.size (fun _ => True) v0_ r ∧ Below w.heap.size w w' := by
  unfold slices_Clone_int_int.f at h
  by_cases h0 : 0 < l0.length
  · rw [if_pos h0] at h
    by_cases h1 : l0.length < 1000
    · rw [if_pos h1] at h
      obtain rfl := Option.some.inj h
      have HR0 := Aside0.mk hr0
      have HC0 := Aside0.mk hc0
      have LM := Aside0.mk h1
      obtain ⟨ad, e1, hx⟩ := Kd.at_int hr0 0 (by omega) (by omega)
      subst e1
      clear hr0 hc0 h h1 hx
      have HB := Aside0.mk (Below.refl w.heap.size w)
      have he : ∀ W : World, (binOp .eql 22 (.slice (some ad) l0.length c0) (.slice none 0 0)).run Tryd.prog W = .ok (.bool false) W := fun _ => rfl
      go_enter Tryd.func40, Tryd.ntmps40
      go_wp2_with (first | ((with_reducible refine gate_dst (N := 5) rfl ?_); (try (refine gate_guard (by rfl) ?_; dsimp only)); refine Kd.R_lit (Kd.int .i64) _ 3 ?hg (N := 5) ?hd (xs := ([] : List Int)) (inner := []) (ok := fun _ => True) (okp := fun _ => True) ?hr ?hp (fun _ hk => hk) trivial (Below.refl _ _) (Nat.le_refl _) (by simp) ?_; (case hd => rfl); (case hg => rfl); (case hr => first | (go_simp; done) | (go_simp; rfl)); (case hp => exact (Reps.none _ _)); intro v129 w24 ho25 hb hg_ hnew_; clear hg_ hnew_; have n0_ := Aside0.mk (Kd.R_lower (Kd.R_newM (M := fun k_ => (w.heap.size ≤ k_)) ho25 (below_size HB.out) (fun k_ h_ => h_)) (below_size HB.out)); have n1_ := Aside0.mk (below_step HB.out hb); clear HB; have HO130 := n0_; have HB := n1_; clear n0_ n1_; clear hb ho25) | ((with_reducible refine gate_builtin (b := .append) (xs := #[.tmp 5, .tmp 6]) rfl ?_); (try (refine gate_guard (by rfl) ?_; dsimp only)); at_builtin; refine Kd.R_append_rows (Kd.int .i64) (w0 := w) w.heap.size rfl (.tmp 5) (.tmp 6) 22 3 (.int .i64 0) 8 rfl Tryd.underlying22 info3 rfl (by decide) (by omega) v129 [] l0 _ _ _ (fun _ => True) (fun _ => False) rfl rfl ?aO ?aR (fun _ _ h => h) (fun _ h => h.elim) ?aF ?aB ?aS ?aL ?_; (case aR => repeat (first | exact (Kd.C_below HR0.out HB.out) | (with_reducible refine Kd.C_alloc ?_ _) | (with_reducible refine Kd.C_drewN ?_ _) | (with_reducible refine Kd.C_drew ?_))); (case aB => exact (by repeat (first | exact HB.out | apply below_alloc | apply pw_below_drewN | apply below_drew1))); (case aF => exact (fun k_ hk => trivial)); (case aO => exact (by (with_reducible repeat (first | apply Kd.R_alloc | apply Kd.R_drewN | apply Kd.R_drew)); exact Kd.R_mono HO130.out (fun _ hk => trivial))); (case aS => exact (below_size (by repeat (first | exact HB.out | apply below_alloc | apply pw_below_drewN | apply below_drew1)))); (case aL => have := LM.out; simp; omega); intro v132 w26 ho hb hg hat; have n0_ := Aside0.mk (hb); have n1_ := Aside0.mk (ho); clear HB; clear HO130; have HB := n0_; have HO133 := n1_; clear n0_ n1_; clear ho hb hg hat))
      go_ret
      exact ⟨_, rfl, HO133.out, HB.out⟩
    · rw [if_neg h1] at h
      exact absurd h (by simp)
  · rw [if_neg h0] at h
    exact absurd h (by simp)

-- NOT PRINTED: function 39 (impl_PartFirst_1)

/-! ### impl_PartFirst: function 19, by hand -/
def impl_PartFirst.step (k : Nat) (n : Int) (s : List Int) (xs : List Int) : Option (List Int) := if s = [] then ((slices_Max_int_int.f k xs).bind fun m => if wrap64 (m + 1) = n then slices_Clone_int_int.f k xs else some s) else some s
def impl_PartFirst.f (k : Nat) (l : List Int) : Option (List Int × Bool) :=
  (impl_PartMost.f k l).bind fun t => if t.2 = true then ((impl_parts.f (impl_PartFirst.step k t.1) k l []).bind fun r => some (r, true)) else some ([], false)
theorem impl_PartFirst.mono_s (n : Int) (k : Nat) : ∀ s l, LeO (impl_PartFirst.step k n s l) (impl_PartFirst.step (k + 1) n s l) := fun _ _ => LeO.ite (LeO.bind (slices_Max_int_int.mono _ _) (fun _ => LeO.ite (slices_Clone_int_int.mono _ _) (LeO.refl _))) (LeO.refl _)
theorem impl_PartFirst.mono : ∀ a0 k, LeO (impl_PartFirst.f k a0) (impl_PartFirst.f (k + 1) a0) := by
  intro a0 k
  unfold impl_PartFirst.f
  exact LeO.bind (impl_PartMost.mono _ _) (fun _ => LeO.ite (LeO.bind (impl_parts.mono (impl_PartFirst.mono_s _ k) _ _ _) (fun _ => LeO.refl _)) (LeO.refl _))
theorem impl_PartFirst.heap_new {W : World} {o : Obj} {g : Nat} (h : g = W.heap.size) : (W.alloc o).heap[g]? = some o := by
  subst h
  exact heap_alloc_new W o
/-- What holds between the calls of the function that is told: the greatest number's own cell, the list's box and its own row. -/
def impl_PartFirst.R (n : Int) (gf gm : Nat) (w0 : World) (s : List Int) (M : Nat → Prop) (w1 : World) : Prop := w1.heap[gm]? = some (.cells #[.int .i64 n] 3 (0, 0)) ∧ Below w0.heap.size w0 w1 ∧ ∃ A c, w1.heap[gf]? = some (.cells #[.slice A s.length c] 22 (0, 0)) ∧ Kd.R (Kd.int .i64) 3 w1 w0.heap.size M (.slice A s.length c) s ∧ (s = [] → A = none ∧ c = 0) ∧ (s ≠ [] → ∃ ad, A = some ad)
theorem impl_PartFirst.moves {n : Int} {gf gm B1 : Nat} {w0 w1 w2 : World} {s : List Int} {M : Nat → Prop} (h : impl_PartFirst.R n gf gm w0 s M w1) (hb : Below B1 w1 w2) (hm : ∀ k, M k → w2.heap[k]? = w1.heap[k]?) (h1 : gf < B1) (h2 : gm < B1) (h3 : w0.heap.size ≤ B1) : impl_PartFirst.R n gf gm w0 s M w2 := by
  obtain ⟨q1, q2, A, c, q3, q4, q5, q6⟩ := h
  exact ⟨(hb.block _ h2).trans q1, q2.trans (Below.mono hb h3), A, c, (hb.block _ h1).trans q3, Kd.R_move q4 hm, q5, q6⟩
set_option maxHeartbeats 4000000 in
set_option maxRecDepth 100000 in
theorem impl_PartFirst.tell (k : Nat) (n : Int) (gf gm : Nat) (w0 : World) (B1 : Nat) (s s' : List Int) (M : Nat → Prop) (xs : List Int) (A : Option Addr) (c : Nat) (w1 : World) (hg0 : w0.heap.size ≤ gf) (hg : gf < B1) (hg2 : gm < B1) (hR : impl_PartFirst.R n gf gm w0 s M w1) (hM : ∀ k, M k → k < w1.heap.size) (hz : B1 ≤ w1.heap.size)
    (hx : Kd.C (Kd.int .i64) w1 A xs.length xs) (hc : xs.length ≤ c) (h : impl_PartFirst.step k n s xs = some s') :
    Calls Tryd.prog 39 (#[.slice A xs.length c] ++ #[.pointer (some ⟨gf, 0, none⟩), .pointer (some ⟨gm, 0, none⟩)]) w1 fun e w2 => e = .returned (.tuple #[]) ∧ (∃ M', impl_PartFirst.R n gf gm w0 s' M' w2 ∧ ∀ k, M' k → (M k ∨ w1.heap.size ≤ k) ∧ k < w2.heap.size) ∧ Below w0.heap.size w1 w2 ∧ ∀ k, B1 ≤ k → k < w1.heap.size → w2.heap[k]? = w1.heap[k]? := by
  show Calls Tryd.prog 39 #[.slice A xs.length c, .pointer (some ⟨gf, 0, none⟩), .pointer (some ⟨gm, 0, none⟩)] w1 _
  have HRR := Aside0.mk hR
  obtain ⟨hR1, hR2, A2, c2, hR3, hR4, hR5, hR6⟩ := hR
  have HX := Aside0.mk hx
  have HC := Aside0.mk hc
  have HM := Aside0.mk hM
  have HR1 := Aside0.mk hR1
  have HR2 := Aside0.mk hR2
  have HR3 := Aside0.mk hR3
  have hne : gm ≠ gf := blk_ne hR1 hR3 (by decide)
  have HG := Aside0.mk (And.intro hg0 (And.intro hg (And.intro hz (And.intro hne hg2))))
  have c0_ : _ = some _ := blk_cell hR3 0
  have c1_ : _ = some _ := blk_cell hR1 0
  have f0_ := blk_frozen hR3 0
  unfold impl_PartFirst.step at h
  by_cases hs : s = []
  · obtain ⟨e1, e2⟩ := hR5 hs
    subst hs e1 e2
    rw [if_pos rfl] at h
    obtain ⟨m, h1, h⟩ := Option.bind_eq_some_iff.mp h
    have H1 := Aside0.mk h1
    obtain ⟨y, hy⟩ : ∃ y, wrap64 (m + 1) = y := ⟨_, rfl⟩
    rw [hy] at h
    have hyw : IntKind.i64.wrap (m + 1) = y := (i64_w _).trans hy
    have he : ∀ W : World, (binOp .eql 22 (.slice none 0 0) (.slice none 0 0)).run Tryd.prog W = .ok (.bool true) W := fun _ => rfl
    clear hx hc hM hR1 hR2 hR3 hR4 hR5 hR6 hg0 hg hg2 hz hne h1
    by_cases hn : y = n
    · rw [if_pos hn] at h
      have hnb : (y == n) = true := beq_iff_eq.mpr hn
      have H2 := Aside0.mk h
      clear h hn
      go_enter Tryd.func39, Tryd.ntmps39
      go_wp2
      go_quiet (first | (go_at_call 29; (with_reducible refine (slices_Max_int_int.calls k _ _ xs m _ (by repeat (first | exact HX.out | (with_reducible refine Kd.C_drewN ?_ _) | (with_reducible refine Kd.C_drew ?_))) HC.out H1.out).mono ?_); rintro e w2 ⟨rfl, ⟨⟨nd, rfl⟩⟩⟩; (first | exact ⟨rfl, _, World.drewN_drewN _ _ _⟩ | exact ⟨rfl, _, Eq.trans (World.drewN_drewN _ _ _) (congrArg (World.drewN _) (Nat.add_assoc _ _ _))⟩)))
      go_wp2_with (first | (go_at_call 40; refine (slices_Clone_int_int.calls k _ _ xs s' _ (by repeat (first | exact HX.out | (with_reducible refine Kd.C_drewN ?_ _) | (with_reducible refine Kd.C_drew ?_))) HC.out H2.out).mono ?_; rintro e w3 ⟨v3, rfl, hr3, hb3⟩; obtain ⟨A3, c3, rfl⟩ := Kd.R_slice hr3; have G2 := Aside0.mk hr3; have G3 := Aside0.mk (show Below w1.heap.size w1 w3 from ⟨hb3.os, hb3.tape, hb3.output, hb3.size, hb3.block⟩); have q1 := blk_below HR3.out G3.out; have c2_ : _ = some _ := blk_cell q1 0; have f2_ := blk_frozen q1 0; clear hr3 hb3 q1))
      go_end0
      obtain ⟨z1, z2⟩ : s' = [] ++ xs ∧ 0 < xs.length := by
        have h := H2.out
        unfold slices_Clone_int_int.f at h
        split at h
        · split at h
          · exact ⟨(Option.some.inj h).symm, by assumption⟩
          · exact absurd h (by simp)
        · exact absurd h (by simp)
      have z3 : 0 < s'.length := by rw [z1]; simpa using z2
      have hb := Kd.R_bound G2.out
      have hlt := blk_lt HR3.out
      have hr := Kd.R_mono (ok' := fun q => w1.heap.size ≤ q ∧ q < w3.heap.size) (Kd.R_step (w1 := w3.setCell ⟨gf, 0, none⟩ (.slice A3 s'.length c3)) hb (fun q hq _ => Below.heap_setCell _ _ _ q (by have h := hq.2.1; have h : w1.heap.size ≤ q := h; intro he; have he : q = gf := he; omega))) (fun q hq => ⟨hq.2.1, hq.2.2.1⟩)
      refine ⟨rfl, ⟨fun q => w1.heap.size ≤ q ∧ q < w3.heap.size, ⟨blk_far (blk_below HR1.out G3.out) HG.out.2.2.2.1 _, (HR2.out.trans (Below.mono G3.out HR2.out.size)).setCell HG.out.1 _, A3, c3, blk_put (blk_below HR3.out G3.out) 0 _ rfl, Kd.R_lower hr HR2.out.size, fun he => ?_, fun _ => ?_⟩, fun q hq => ⟨.inr hq.1, by simpa [World.setCell] using hq.2⟩⟩, (Below.mono G3.out HR2.out.size).setCell HG.out.1 _, fun q h1 h2 => (Below.heap_setCell _ _ _ q (by have := HG.out.2.1; simp; omega)).trans (G3.out.block q h2)⟩
      · rw [he] at z3
        exact absurd z3 (by simp)
      · obtain ⟨ad, e, _⟩ := Kd.at_int (Kd.R_reads' G2.out).2.2 0 (by omega) (by omega)
        exact ⟨ad, e⟩
    · rw [if_neg hn] at h
      have hnb : (y == n) = false := beq_eq_false_iff_ne.mpr hn
      obtain rfl := Option.some.inj h
      clear h hn
      go_enter Tryd.func39, Tryd.ntmps39
      go_wp2
      go_quiet (first | (go_at_call 29; (with_reducible refine (slices_Max_int_int.calls k _ _ xs m _ (by repeat (first | exact HX.out | (with_reducible refine Kd.C_drewN ?_ _) | (with_reducible refine Kd.C_drew ?_))) HC.out H1.out).mono ?_); rintro e w2 ⟨rfl, ⟨⟨nd, rfl⟩⟩⟩; (first | exact ⟨rfl, _, World.drewN_drewN _ _ _⟩ | exact ⟨rfl, _, Eq.trans (World.drewN_drewN _ _ _) (congrArg (World.drewN _) (Nat.add_assoc _ _ _))⟩)))
      go_wp2
      go_end0
      exact ⟨rfl, ⟨M, impl_PartFirst.moves (B1 := B1) HRR.out (pw_below_drewN (Below.refl _ _) _) (fun _ _ => rfl) HG.out.2.1 HG.out.2.2.2.2 (by have := HG.out.1; have := HG.out.2.1; omega), fun q hq => ⟨.inl hq, HM.out q hq⟩⟩, pw_below_drewN (Below.refl _ _) _, fun q _ _ => rfl⟩
  · obtain ⟨ad, rfl⟩ := hR6 hs
    rw [if_neg hs] at h
    obtain rfl := Option.some.inj h
    have he : ∀ W : World, (binOp .eql 22 (.slice (some ad) s.length c2) (.slice none 0 0)).run Tryd.prog W = .ok (.bool false) W := fun _ => rfl
    clear hx hc hM hR1 hR2 hR3 hR4 hR5 hR6 hg0 hg hg2 hz hne h hs
    go_enter Tryd.func39, Tryd.ntmps39
    go_wp2
    go_quiet (fail)
    go_wp2
    go_end0
    exact ⟨rfl, ⟨M, impl_PartFirst.moves (B1 := B1) HRR.out (pw_below_drewN (Below.refl _ _) _) (fun _ _ => rfl) HG.out.2.1 HG.out.2.2.2.2 (by have := HG.out.1; have := HG.out.2.1; omega), fun q hq => ⟨.inl hq, HM.out q hq⟩⟩, pw_below_drewN (Below.refl _ _) _, fun q _ _ => rfl⟩
set_option maxHeartbeats 4000000 in
set_option maxRecDepth 100000 in
theorem impl_PartFirst.calls (k : Nat) (A0 : Option Addr) (c0 : Nat) (l0 : List Int) (r1 : List Int) (r2 : Bool) (w : World) (hr0 : Kd.C (Kd.int .i64) w A0 l0.length l0) (hc0 : l0.length ≤ c0) (h : impl_PartFirst.f k l0 = some (r1, r2)) :
    Calls Tryd.prog 19 #[.slice A0 l0.length c0] w fun e w' => ∃ v0_ : Value, e = .returned (.tuple #[v0_, .bool r2]) ∧ Kd.R (Kd.int .i64) 3 w' w.heap.size (fun _ => True) v0_ r1 ∧ Below w.heap.size w w' := by
  have HR0 := Aside0.mk hr0
  have HC0 := Aside0.mk hc0
  clear hr0 hc0
  obtain ⟨⟨n, ok⟩, h1, h⟩ := Option.bind_eq_some_iff.mp h
  have A1 := Aside0.mk h1
  clear h1
  simp only at h
  by_cases c3 : ok = true
  · subst c3
    rw [if_pos rfl] at h
    obtain ⟨r, h3, h⟩ := Option.bind_eq_some_iff.mp h
    simp only [Option.some.injEq, Prod.mk.injEq] at h
    obtain ⟨rfl, rfl⟩ := h
    have A3 := Aside0.mk h3
    clear h3
    have hmf : ∀ (fn : Fn) (first cap : Array Value) (w : World), (Instr.makeFunc fn first cap).run Tryd.prog w = .ok (.func fn first cap) w := fun _ _ _ _ => rfl
    go_enter Tryd.func19, Tryd.ntmps19
    go_wp2_with (first
      | (go_at_call 14; refine (impl_PartMost.calls k _ _ l0 n true _ (by repeat (first | exact HR0.out | (with_reducible refine Kd.C_alloc ?_ _) | (with_reducible refine Kd.C_drewN ?_ _) | (with_reducible refine Kd.C_drew ?_))) HC0.out A1.out).mono ?_; rintro e w1 ⟨rfl, hb1⟩; have HB := Aside0.mk hb1; clear hb1)
      | (go_at_call 34; refine (impl_parts.callsM (impl_PartFirst.step k n) 39 _ Tryd.func39 (by kernel_rfl) rfl #[.pointer (some ⟨w1.heap.size + 1, 0, none⟩), .pointer (some ⟨w1.heap.size, 0, none⟩)] w.heap.size (impl_PartFirst.R n (w1.heap.size + 1) w1.heap.size w) k A0 c0 l0 [] r _ ?hm ?ht ?hB ?hr HC0.out ?hs A3.out).mono ?_; (case hm => exact fun s M wa wb h1 h2 h3 => impl_PartFirst.moves h1 h2 h3 (by simp) (by simp; try omega) (by have := HB.out.size; simp; omega)); (case ht => exact fun s s' M xs A c wa h1 hM hz hx hc h2 => impl_PartFirst.tell k n _ _ w _ s s' M xs A c wa (by have := HB.out.size; omega) (by simp) (by simp; try omega) h1 hM hz hx hc h2); (case hB => have := HB.out.size; simp; omega); (case hr => exact fun w' hb => Kd.C_below HR0.out (Below.trans (below_alloc (below_alloc HB.out _) _) hb)); (case hs => exact ⟨blk_alloc (impl_PartFirst.heap_new rfl) _, below_alloc (below_alloc HB.out _) _, none, 0, impl_PartFirst.heap_new (by simp), Kd.R_nil _ _ _ _ _, fun _ => ⟨rfl, rfl⟩, fun h => absurd rfl h⟩); rintro e w2 ⟨rfl, ⟨M2, hs2⟩, hb2⟩; obtain ⟨q1, q2, A2, c2, q3, q4, _, _⟩ := hs2; have c2_ : _ = some _ := blk_cell q3 0; have G4 := Aside0.mk q4; have HB2 := Aside0.mk q2; clear q1 q2 q3 q4 hb2))
    go_ret2
    exact ⟨_, rfl, Kd.R_mono G4.out (fun _ _ => trivial), HB2.out⟩
  · replace c3 := Bool.eq_false_iff.mpr c3
    subst c3
    rw [if_neg (by decide)] at h
    simp only [Option.some.injEq, Prod.mk.injEq] at h
    obtain ⟨rfl, rfl⟩ := h
    go_enter Tryd.func19, Tryd.ntmps19
    go_wp2_with (first
      | (go_at_call 14; refine (impl_PartMost.calls k _ _ l0 n false _ (by repeat (first | exact HR0.out | (with_reducible refine Kd.C_alloc ?_ _) | (with_reducible refine Kd.C_drewN ?_ _) | (with_reducible refine Kd.C_drew ?_))) HC0.out A1.out).mono ?_; rintro e w1 ⟨rfl, hb1⟩; have HB := Aside0.mk hb1; clear hb1))
    go_ret2
    exact ⟨_, rfl, Kd.R_nil _ _ _ _ _, below_alloc HB.out _⟩

-- NOT PRINTED: function 82 (strconv_small)

-- NOT PRINTED: function 96 (strconv_log10Pow2)

-- NOT PRINTED: function 97 (bits_Len64)

-- NOT PRINTED: function 98 (strconv_bool2_int)

-- NOT PRINTED: function 83 (strconv_numDigits)

-- NOT PRINTED: function 84 (strconv_formatBase10)

-- NOT PRINTED: function 99 (strconv_isPowerOfTwo)

-- NOT PRINTED: function 104 (bits_TrailingZeros32)

-- NOT PRINTED: function 105 (bits_TrailingZeros64)

-- NOT PRINTED: function 100 (bits_TrailingZeros)

-- NOT PRINTED: function 85 (strconv_formatBits)

-- NOT PRINTED: function 68 (strconv_FormatInt)

-- NOT PRINTED: function 49 (strconv_Itoa_49)

/-! ### strconv_Itoa_27: function 27, from the shelf: the library's table is the world's -/
def ErrIs (g : Nat) (w : World) : Prop := ∃ ev, w.cell? ⟨g, 0, none⟩ = some ev ∧ (ev = .nilIface ∨ ∃ te pe, ev = .iface te pe)
theorem ErrIs.below {g : Nat} {w w' : World} (h : ErrIs g w) (hb : Below w.heap.size w w') : ErrIs g w' := by
  obtain ⟨ev, h1, h2⟩ := h
  exact ⟨ev, (hb.cell (World.block_lt_of_cell? _ _ h1)).trans h1, h2⟩
def TabI (w : World) : Prop := Lib.TabIs Tryd.prog w "internal/strconv.uint64pow10" .u64 Lib.pow10Tab
theorem TabI.below {w w' : World} (h : TabI w) (hb : Below w.heap.size w w') : TabI w' := by
  unfold TabI Lib.TabIs World.var? at h ⊢
  cases hg : Program.globalNamed Tryd.prog "internal/strconv.uint64pow10" with
  | none => rw [hg] at h; exact absurd h (by simp)
  | some g =>
    rw [hg] at h
    simp only [Option.bind_some] at h ⊢
    have hlt : g < w.heap.size := by
      rcases Nat.lt_or_ge g w.heap.size with h1 | h1
      · exact h1
      · rw [Array.getElem?_eq_none h1] at h
        exact absurd h (by simp)
    rw [hb.block g hlt]
    exact h
/-- The library's table of powers, and its two errors' variables. -/
def TabW (w : World) : Prop := TabI w ∧ ErrIs 0 w ∧ ErrIs 1 w
theorem TabW.below {w w' : World} (h : TabW w) (hb : Below w.heap.size w w') : TabW w' := ⟨h.1.below hb, h.2.1.below hb, h.2.2.below hb⟩
def strconv_Itoa_27.f (a0 : Int) : Option ByteArray := if -9223372036854775808 ≤ a0 ∧ a0 ≤ 9223372036854775807 then some ⟨(Lib.itoa a0).toArray⟩ else none
theorem strconv_Itoa_27.calls (a0 : Int) (r : ByteArray) (w : World) (h : strconv_Itoa_27.f a0 = some r) (htab_ : TabW w) :
    Calls Tryd.prog 27 #[.int .i64 a0] w fun e w' => e = .returned (.string r) ∧ Below w.heap.size w w' := by
  unfold strconv_Itoa_27.f at h
  split at h
  · next hc =>
    injection h with h
    subst h
    refine (Go.Proofs.YtlgcjmgfhbdpgaaDoor.Shelf.Tryd.strconv_Itoa a0 (by omega) (by omega) w htab_.1).mono ?_
    rintro e w' ⟨rfl, k, os, rfl⟩
    exact ⟨rfl, ⟨rfl, rfl, rfl, by simp, fun q hq => Go.Sort.heap_grow_old _ _ (by simpa using hq)⟩⟩
  · simp at h

-- NOT PRINTED: function 87 (abi_NoEscape)

-- NOT PRINTED: function 72 (strings_Builder_copyCheck)

-- NOT PRINTED: function 88 (bytealg_MakeNoZero)

-- NOT PRINTED: function 73 (strings_Builder_grow)

-- NOT PRINTED: function 56 (strings_Builder_Grow)

-- NOT PRINTED: function 57 (strings_Builder_WriteString)

-- NOT PRINTED: function 58 (strings_Builder_String)

/-! ### strings_Join: function 41, from the shelf -/
def strings_Join.f (xs : List ByteArray) (sep : ByteArray) : Option ByteArray := if xs.length ≤ 1000 ∧ (Lib.join (xs.map (·.data.toList)) sep.data.toList).length ≤ 1048576 then some ⟨(Lib.join (xs.map (·.data.toList)) sep.data.toList).toArray⟩ else none
theorem strings_Join.spot {w : World} {a : Addr} {v : Value} (h : w.cell? a = some v) : a.spot = none := by
  unfold World.cell? at h
  split at h
  · split at h
    · simp at h
    · next hs => simpa using hs
  · simp at h
theorem strings_Join.calls (A0 : Option Addr) (c0 : Nat) (l0 : List ByteArray) (a1 : ByteArray) (r : ByteArray) (w : World) (hr0 : Kd.C Kd.string w A0 l0.length l0) (hc0 : l0.length ≤ c0) (h : strings_Join.f l0 a1 = some r) :
    Calls Tryd.prog 41 #[.slice A0 l0.length c0, .string a1] w fun e w' => e = .returned (.string r) ∧ Below w.heap.size w w' := by
  unfold strings_Join.f at h
  split at h
  · next hc =>
    injection h with h
    subst h
    match l0, hr0, hc0, hc with
    | [], _, _, _ =>
      refine (Go.Proofs.YtlgcjmgfhbdpgaaDoor.Shelf.Tryd.strings_Join_none A0 c0 a1 w).mono ?_
      rintro e w' ⟨rfl, rfl⟩
      exact ⟨rfl, Below.refl _ _⟩
    | x :: xs, hr0, hc0, hc =>
      obtain ⟨ad, rfl, h0⟩ := Kd.at_string hr0 0 (by omega) (by simp)
      have hsp := strings_Join.spot h0
      have hblk := World.block_lt_of_cell? _ _ h0
      obtain ⟨bk, o, sp⟩ := ad
      have hsp : sp = none := hsp
      subst hsp
      refine (Go.Proofs.YtlgcjmgfhbdpgaaDoor.Shelf.Tryd.strings_Join bk o c0 (x :: xs) a1 w (fun j y hj => ?_) hblk (by omega) hc0 (by omega)).mono ?_
      · obtain ⟨hjl, hje⟩ := List.getElem?_eq_some_iff.mp hj
        obtain ⟨ad, e, h1⟩ := Kd.at_string hr0 (j : Int) (by omega) (by omega)
        injection e with e
        subst e
        have e2 : rdOf ByteArray.empty (x :: xs) (j : Int) = y := by
          unfold rdOf
          rw [Int.toNat_natCast, List.getD_eq_getElem?_getD, hj]
          rfl
        rw [e2, Int.toNat_natCast] at h1
        have ha : (⟨bk, o, none⟩ : Addr).add j = ⟨bk, o + j, none⟩ := by
          unfold Addr.add
          split
          · next h0 => rw [h0]; rfl
          · rfl
        rw [ha] at h1
        exact h1
      · rintro e w' ⟨rfl, hb⟩
        exact ⟨rfl, hb⟩
  · simp at h

end Go.Proofs.YtlgcjmgfhbdpgaaDoor.PFnProofThrees
