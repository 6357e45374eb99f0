/- Written by a program of this claim out of the translation: plain Lean functions and their contracts; what is proved: each Go function of this text comes to what its Lean function says. -/
import Derived.Test.YtlgcjmgfhbdpgaaDoorPFnThreesIsx0
import Derived.Test.YtlgcjmgfhbdpgaaDoorPFnThreesIsx3
import Derived.Test.YtlgcjmgfhbdpgaaDoorPFnThreesIsx4
namespace Go.Proofs.YtlgcjmgfhbdpgaaDoor.PFnThreesIs
open Go.RowKit Go.Proofs.YtlgcjmgfhbdpgaaDoorW.PrintWords Go.Proofs.YtlgcjmgfhbdpgaaDoorW.PrintLast Go.Proofs.YtlgcjmgfhbdpgaaDoorW.PrintMore
attribute [local go_sem] max2_int min2_int max_two min_two max_three min_three max_four min_four   -- for this text's walks alone
set_option linter.unusedVariables false
set_option linter.unusedSimpArgs false

/-! ### impl_parts: function 34, by hand -/
/-- Mode 0: a call of the inner function; mode 1: its loop, at a number; mode 2: that number is put behind the list. -/
def impl_parts.t {S : Type} (step : S → List Int → Option S) : Nat → Nat → List Int → List Int → Int → Int → S → Option S
  | 0, _, _, _, _, _, _ => none
  | k + 1, 0, a, l, m, _, s => if (l.length : Int) = (a.length : Int) then ((impl_partsFit.f k a l m).bind fun b => if b = true then step s l else some s) else impl_parts.t step k 1 a l m (-1) s
  | k + 1, 1, a, l, m, i, s => if i ≤ m then (if 0 ≤ i then ((impl_countOf.f k l i).bind fun c => if c = 3 then impl_parts.t step k 1 a l m (wrap64 (i + 1)) s else impl_parts.t step k 2 a l m i s) else impl_parts.t step k 2 a l m i s) else some s
  | k + 1, _, a, l, m, i, s => if l.length < 1000 then ((if i = m then impl_parts.t step k 0 a (l ++ [i]) (wrap64 (m + 1)) 0 s else impl_parts.t step k 0 a (l ++ [i]) m 0 s).bind fun s' => impl_parts.t step k 1 a l m (wrap64 (i + 1)) s') else none
def impl_parts.f {S : Type} (step : S → List Int → Option S) (k : Nat) (a : List Int) (s : S) : Option S := if a.length ≤ 1000 then impl_parts.t step k 0 a [] 0 0 s else none
theorem impl_parts.t0 {S : Type} (step : S → List Int → Option S) (k : Nat) (a l : List Int) (m i : Int) (s : S) : impl_parts.t step (k + 1) 0 a l m i s = if (l.length : Int) = (a.length : Int) then ((impl_partsFit.f k a l m).bind fun b => if b = true then step s l else some s) else impl_parts.t step k 1 a l m (-1) s := rfl
theorem impl_parts.t1 {S : Type} (step : S → List Int → Option S) (k : Nat) (a l : List Int) (m i : Int) (s : S) : impl_parts.t step (k + 1) 1 a l m i s = if i ≤ m then (if 0 ≤ i then ((impl_countOf.f k l i).bind fun c => if c = 3 then impl_parts.t step k 1 a l m (wrap64 (i + 1)) s else impl_parts.t step k 2 a l m i s) else impl_parts.t step k 2 a l m i s) else some s := rfl
theorem impl_parts.t2 {S : Type} (step : S → List Int → Option S) (k d : Nat) (a l : List Int) (m i : Int) (s : S) : impl_parts.t step (k + 1) (d + 2) a l m i s = if l.length < 1000 then ((if i = m then impl_parts.t step k 0 a (l ++ [i]) (wrap64 (m + 1)) 0 s else impl_parts.t step k 0 a (l ++ [i]) m 0 s).bind fun s' => impl_parts.t step k 1 a l m (wrap64 (i + 1)) s') else none := rfl
theorem impl_parts.mono_t {S : Type} {st st' : S → List Int → Option S} (hst : ∀ s l, LeO (st s l) (st' s l)) : ∀ k d y0 y1 y2 y3 y4, LeO (impl_parts.t st k d y0 y1 y2 y3 y4) (impl_parts.t st' (k + 1) d y0 y1 y2 y3 y4)
  | 0, _, _, _, _, _, _ => fun r h => by simp [impl_parts.t] at h
  | k + 1, d, y0, y1, y2, y3, y4 => by
    have ih := impl_parts.mono_t hst k
    have all : ∀ d, LeO (impl_parts.t st (k + 1) d y0 y1 y2 y3 y4) (impl_parts.t st' (k + 1 + 1) d y0 y1 y2 y3 y4) := by
      intro d
      match d with
      | 0 => rw [impl_parts.t0, impl_parts.t0]; exact LeO.ite (LeO.bind (impl_partsFit.mono _ _ _ _) (fun _ => LeO.ite (hst _ _) (LeO.refl _))) (ih _ _ _ _ _ _)
      | 1 => rw [impl_parts.t1, impl_parts.t1]; exact LeO.ite (LeO.ite (LeO.bind (impl_countOf.mono _ _ _) (fun _ => LeO.ite (ih _ _ _ _ _ _) (ih _ _ _ _ _ _))) (ih _ _ _ _ _ _)) (LeO.refl _)
      | d + 2 => rw [impl_parts.t2, impl_parts.t2]; exact LeO.ite (LeO.bind (LeO.ite (ih _ _ _ _ _ _) (ih _ _ _ _ _ _)) (fun _ => ih _ _ _ _ _ _)) (LeO.refl _)
    exact all d
theorem impl_parts.mono {S : Type} {st st' : S → List Int → Option S} (hst : ∀ s l, LeO (st s l) (st' s l)) (a : List Int) (s : S) (k : Nat) : LeO (impl_parts.f st k a s) (impl_parts.f st' (k + 1) a s) := by
  unfold impl_parts.f
  exact LeO.ite (impl_parts.mono_t hst k _ _ _ _ _ _) (LeO.refl _)
/-- What holds of the world between the steps: the list's own box and row, the boxes of the argument, of the function that is told and of the inner one; the state, and the blocks that it keeps: none of them is the list's. -/
structure impl_parts.I {S : Type} (K : Nat) (caps : Array Value) (A0 : Option Addr) (n0 c0 B0 B1 gl ga gt gy : Nat) (R : S → (Nat → Prop) → World → Prop) (w0 w : World) (l : List Int) (s : S) : Prop where
  row : ∃ A c, w.heap[gl]? = some (.cells #[.slice A l.length c] 22 (0, 0)) ∧ l.length ≤ c ∧ ∃ M : Nat → Prop, Kd.R (Kd.int .i64) 3 w B1 (fun k => ¬ M k) (.slice A l.length c) l ∧ R s M w ∧ ∀ k, M k → k < w.heap.size ∧ k ≠ gl
  arg : w.heap[ga]? = some (.cells #[.slice A0 n0 c0] 22 (0, 0))
  tel : w.heap[gt]? = some (.cells #[.func (.func K) #[] caps] 57 (0, 0))
  try_ : w.heap[gy]? = some (.cells #[.func (.func 53) #[] #[.pointer (some ⟨gl, 0, none⟩), .pointer (some ⟨ga, 0, none⟩), .pointer (some ⟨gt, 0, none⟩), .pointer (some ⟨gy, 0, none⟩)]] 66 (0, 0))
  low : Below B0 w0 w
  siz : B1 ≤ w.heap.size
section
variable {S : Type} {K : Nat} {caps : Array Value} {A0 : Option Addr} {n0 c0 B0 B1 gl ga gt gy : Nat} {R : S → (Nat → Prop) → World → Prop} {w0 w w1 : World} {l : List Int} {s s' : S}
theorem impl_parts.I.below (h : impl_parts.I K caps A0 n0 c0 B0 B1 gl ga gt gy R w0 w l s) (hmove : ∀ s M w1 w2, R s M w1 → Below B1 w1 w2 → (∀ k, M k → w2.heap[k]? = w1.heap[k]?) → R s M w2) (hB : B0 ≤ B1) (hb : Below w.heap.size w w1) : impl_parts.I K caps A0 n0 c0 B0 B1 gl ga gt gy R w0 w1 l s := by
  obtain ⟨⟨A, c, h1, h2, M, h3, hs, hm⟩, ha, ht, hy, hl, hz⟩ := h
  exact ⟨⟨A, c, blk_below h1 hb, h2, M, Kd.R_below h3 hb, hmove _ _ _ _ hs (Below.mono hb hz) (fun k hk => hb.block k (hm k hk).1), fun k hk => ⟨Nat.lt_of_lt_of_le (hm k hk).1 hb.size, (hm k hk).2⟩⟩, blk_below ha hb, blk_below ht hb, blk_below hy hb, hl.trans (Below.mono hb (Nat.le_trans hB hz)), Nat.le_trans hz hb.size⟩
theorem impl_parts.I.told {M : Nat → Prop} {A : Option Addr} {c : Nat} (q1 : w.heap[gl]? = some (.cells #[.slice A l.length c] 22 (0, 0))) (q2 : l.length ≤ c) (q3 : Kd.R (Kd.int .i64) 3 w B1 (fun k => ¬ M k) (.slice A l.length c) l) (hm : ∀ k, M k → k < w.heap.size ∧ k ≠ gl) (h : impl_parts.I K caps A0 n0 c0 B0 B1 gl ga gt gy R w0 w l s) (h1 : B1 ≤ gl) (h2 : B1 ≤ ga) (h3 : B1 ≤ gt) (h4 : B1 ≤ gy) (hs : ∃ M', R s' M' w1 ∧ ∀ k, M' k → (M k ∨ w.heap.size ≤ k) ∧ k < w1.heap.size) (hb : Below B0 w w1) (hk : ∀ k, B1 ≤ k → k < w.heap.size → w1.heap[k]? = w.heap[k]?) : impl_parts.I K caps A0 n0 c0 B0 B1 gl ga gt gy R w0 w1 l s' := by
  obtain ⟨_, ha, ht, hy, hl, hz⟩ := h
  obtain ⟨M', hs, hm'⟩ := hs
  refine ⟨⟨A, c, (hk _ h1 (blk_lt q1)).trans q1, q2, M', Kd.R_mono (Kd.R_step (Kd.R_bound q3) (fun k h _ => hk k h.2.1 h.2.2.1)) (fun k hk hq => ?_), hs, fun k hq => ⟨(hm' k hq).2, fun he => ?_⟩⟩, (hk _ h2 (blk_lt ha)).trans ha, (hk _ h3 (blk_lt ht)).trans ht, (hk _ h4 (blk_lt hy)).trans hy, hl.trans hb, Nat.le_trans hz hb.size⟩
  · rcases (hm' k hq).1 with h | h
    · exact hk.1 h
    · have := hk.2.2.1
      omega
  · have := blk_lt q1
    rcases (hm' k hq).1 with h | h
    · exact (hm k h).2 he
    · omega
/-- The list's box is written: a row over it stands in the world as it is. -/
theorem impl_parts.I.put {v : Value} (h : w.heap[gl]? = some (.cells #[v] 22 (0, 0))) (ha : w.heap[ga]? = some (.cells #[.slice A0 n0 c0] 22 (0, 0))) (hga : ga ≠ gl)
    (ht : w.heap[gt]? = some (.cells #[.func (.func K) #[] caps] 57 (0, 0)))
    (hy : w.heap[gy]? = some (.cells #[.func (.func 53) #[] #[.pointer (some ⟨gl, 0, none⟩), .pointer (some ⟨ga, 0, none⟩), .pointer (some ⟨gt, 0, none⟩), .pointer (some ⟨gy, 0, none⟩)]] 66 (0, 0)))
    (hmove : ∀ s M w1 w2, R s M w1 → Below B1 w1 w2 → (∀ k, M k → w2.heap[k]? = w1.heap[k]?) → R s M w2) {M : Nat → Prop} (hs : R s M w) (hm : ∀ k, M k → k < w.heap.size ∧ k ≠ gl) (hl : Below B0 w0 w) (hz : B1 ≤ w.heap.size) (hg : B1 ≤ gl) (hB : B0 ≤ B1)
    {A : Option Addr} {c : Nat} (hc : l.length ≤ c) (hr : Kd.R (Kd.int .i64) 3 w B1 (fun k => ¬ M k) (.slice A l.length c) l) : impl_parts.I K caps A0 n0 c0 B0 B1 gl ga gt gy R w0 (w.setCell ⟨gl, 0, none⟩ (.slice A l.length c)) l s := by
  have b1 : Below B1 w (w.setCell ⟨gl, 0, none⟩ (.slice A l.length c)) := (Below.refl _ _).setCell hg _
  have n1 : gt ≠ gl := blk_ne ht h (by decide)
  have n2 : gy ≠ gl := blk_ne hy h (by decide)
  exact ⟨⟨A, c, blk_put h 0 _ rfl, hc, M, Kd.R_set hr h (by decide) 0 _, hmove _ _ _ _ hs b1 (fun k hk => Below.heap_setCell _ _ _ k (hm k hk).2), fun k hk => ⟨by simpa [World.setCell] using (hm k hk).1, (hm k hk).2⟩⟩, blk_far ha hga _, blk_far ht n1 _, blk_far hy n2 _, hl.trans (Below.mono b1 hB), by simpa [World.setCell] using hz⟩
theorem impl_parts.I.state (h : impl_parts.I K caps A0 n0 c0 B0 B1 gl ga gt gy R w0 w l s) : ∃ M, R s M w := by
  obtain ⟨⟨A, c, _, _, M, _, hs, _⟩, _⟩ := h
  exact ⟨M, hs⟩
end
set_option maxHeartbeats 8000000 in
set_option maxRecDepth 100000 in
theorem impl_parts.tries {S : Type} (step : S → List Int → Option S) (K : Nat) (fn : Func) (hK : Tryd.prog.funcs[K]? = some fn) (hKn : (fn.name == "runtime.NumGoroutine") = false) (hKb : fn.body.isSome = true) (caps : Array Value) (a : List Int) (A0 : Option Addr) (c0 B0 B1 gl ga gt gy : Nat) (R : S → (Nat → Prop) → World → Prop) (w0 : World)
    (hmove : ∀ s M w1 w2, R s M w1 → Below B1 w1 w2 → (∀ k, M k → w2.heap[k]? = w1.heap[k]?) → R s M w2)
    (htell : ∀ s s' M xs A c w1, R s M w1 → (∀ k, M k → k < w1.heap.size) → B1 ≤ w1.heap.size → Kd.C (Kd.int .i64) w1 A xs.length xs → xs.length ≤ c → step s xs = some s' → Calls Tryd.prog K (#[.slice A xs.length c] ++ caps) w1 fun e w2 => e = .returned (.tuple #[]) ∧ (∃ M', R s' M' w2 ∧ ∀ k, M' k → (M k ∨ w1.heap.size ≤ k) ∧ k < w2.heap.size) ∧ Below B0 w1 w2 ∧ ∀ k, B1 ≤ k → k < w1.heap.size → w2.heap[k]? = w1.heap[k]?)
    (h1 : B1 ≤ gl) (h2 : B1 ≤ ga) (h3 : B1 ≤ gt) (h4 : B1 ≤ gy) (h5 : ga ≠ gl) (hB : B0 ≤ B1) (hr0 : ∀ w', Below B0 w0 w' → Kd.C (Kd.int .i64) w' A0 a.length a) (hc0 : a.length ≤ c0) :
    ∀ (k : Nat) (l : List Int) (m : Int) (s s' : S) (w : World), impl_parts.t step k 0 a l m 0 s = some s' → impl_parts.I K caps A0 a.length c0 B0 B1 gl ga gt gy R w0 w l s →
    Calls Tryd.prog 53 #[.int .i64 m, .pointer (some ⟨gl, 0, none⟩), .pointer (some ⟨ga, 0, none⟩), .pointer (some ⟨gt, 0, none⟩), .pointer (some ⟨gy, 0, none⟩)] w fun e w' => e = .returned (.tuple #[]) ∧ impl_parts.I K caps A0 a.length c0 B0 B1 gl ga gt gy R w0 w' l s' := by
  have HM := Aside0.mk hmove
  have HT := Aside0.mk htell
  have HG := Aside0.mk (And.intro h1 (And.intro h2 (And.intro h3 (And.intro h4 (And.intro h5 (And.intro hB hc0))))))
  have HKn := Aside0.mk (And.intro hK (And.intro hKn hKb))
  have HR := Aside0.mk hr0
  clear hmove htell h1 h2 h3 h4 h5 hB hc0 hK hKn hKb hr0
  intro k
  induction k using Nat.strongRecOn with
  | ind k ih0 =>
  intro l m s s' w h hI
  have IH := Aside0.mk ih0
  clear ih0
  have HI := Aside0.mk hI
  clear hI
  cases k with
  | zero => simp [impl_parts.t] at h
  | succ k =>
    rw [impl_parts.t0] at h
    by_cases h0 : (l.length : Int) = (a.length : Int)
    · rw [if_pos h0] at h
      have e0 : ((l.length : Int) == (a.length : Int)) = true := beq_iff_eq.mpr h0
      clear h0
      obtain ⟨b, hb, h⟩ := Option.bind_eq_some_iff.mp h
      have HF := Aside0.mk hb
      clear hb
      obtain ⟨⟨A, c, g1, g2, M, g3, gs_, gm_⟩, ga_, gt_, gy_, gl_, gz_⟩ := HI.out
      have GM := Aside0.mk gm_
      clear gm_
      have cl : _ = some _ := blk_cell g1 0
      have fl := blk_frozen g1 0
      have ca : _ = some _ := blk_cell ga_ 0
      have ct : _ = some _ := blk_cell gt_ 0
      have cy : _ = some _ := blk_cell gy_ 0

      have GR := Aside0.mk (Kd.R_reads' g3).2.2
      have GC := Aside0.mk g2
      have GB := Aside0.mk gl_
      clear g1 g2 g3 ga_ gt_ gy_ gs_ gl_ gz_
      by_cases hb : b = true
      · subst hb
        rw [if_pos rfl] at h
        have H := Aside0.mk h
        clear h
        go_enter Tryd.func53, Tryd.ntmps53
        go_wp2_with (first
          | (go_at_call 54; refine (impl_partsFit.calls k _ _ a _ _ l m true _ (HR.out _ GB.out) HG.out.2.2.2.2.2.2 GR.out GC.out HF.out).mono ?_; rintro e w1 ⟨rfl, hb⟩; have HI2 := Aside0.mk (HI.out.below HM.out HG.out.2.2.2.2.2.1 hb); clear hb; obtain ⟨⟨A', c', q1, q2, M2, q3, qs, qm⟩, qa, qt, qy, ql, qz⟩ := HI2.out; have GQ := Aside0.mk (And.intro q1 (And.intro q2 (And.intro q3 qm))); have GR2 := Aside0.mk (Kd.R_reads' q3).2.2; have GC2 := Aside0.mk q2; have GZ2 := Aside0.mk qz; have GS2 := Aside0.mk qs; have dl : _ = some _ := blk_cell q1 0; have dt : _ = some _ := blk_cell qt 0; clear q1 q2 q3 qm qa qt qy qs ql qz))
        rw [enters_ HKn.out.1 HKn.out.2.1 HKn.out.2.2, Oper.upon_enter]
        refine (HT.out s s' M2 l A' c' w1 GS2.out (fun k hk => (GQ.out.2.2.2 k hk).1) GZ2.out GR2.out GC2.out H.out).mono ?_
        rintro e w2 ⟨rfl, hs2, hb2, hk2⟩
        have HI3 := Aside0.mk (impl_parts.I.told GQ.out.1 GQ.out.2.1 GQ.out.2.2.1 GQ.out.2.2.2 HI2.out HG.out.1 HG.out.2.1 HG.out.2.2.1 HG.out.2.2.2.1 hs2 hb2 hk2)
        clear hs2 hb2 hk2
        go_wp2
        refine bodyPost_ret (results_none rfl _ _ _) rfl ?_
        exact ⟨rfl, HI3.out⟩
      · replace hb := Bool.eq_false_iff.mpr hb
        subst hb
        rw [if_neg (by decide)] at h
        obtain rfl := Option.some.inj h
        clear h
        go_enter Tryd.func53, Tryd.ntmps53
        go_wp2_with (first
          | (go_at_call 54; refine (impl_partsFit.calls k _ _ a _ _ l m false _ (HR.out _ GB.out) HG.out.2.2.2.2.2.2 GR.out GC.out HF.out).mono ?_; rintro e w1 ⟨rfl, hb⟩; have HI2 := Aside0.mk (HI.out.below HM.out HG.out.2.2.2.2.2.1 hb); clear hb))
        refine bodyPost_ret (results_none rfl _ _ _) rfl ?_
        exact ⟨rfl, HI2.out⟩
    · rw [if_neg h0] at h
      have e0 : ((l.length : Int) == (a.length : Int)) = false := beq_eq_false_iff_ne.mpr h0
      clear h0
      obtain ⟨⟨A, c, g1, g2, M, g3, gs_, gm_⟩, ga_, gt_, gy_, gl_, gz_⟩ := HI.out
      have GM := Aside0.mk gm_
      clear gm_
      have cl : _ = some _ := blk_cell g1 0
      have fl := blk_frozen g1 0
      have ca : _ = some _ := blk_cell ga_ 0
      have ct : _ = some _ := blk_cell gt_ 0
      have cy : _ = some _ := blk_cell gy_ 0

      clear g1 g2 g3 ga_ gt_ gy_ gs_ gl_ gz_
      have H := Aside0.mk h
      clear h
      go_enter Tryd.func53, Tryd.ntmps53
      go_wp2
      go_loopg [6] k (fun kq v6 w' => ∃ (i : Int) (s1 : S), v6 = .int .i64 i ∧ Aside0 (impl_parts.t step kq 1 a l m i s1 = some s') ∧ Aside0 (kq ≤ k) ∧ Aside0 (impl_parts.I K caps A0 a.length c0 B0 B1 gl ga gt gy R w0 w' l s1))
      case atStart => exact ⟨-1, s, (by first | rfl | (simp; done) | (simp [*]; done)), H, ⟨Nat.le_refl _⟩, HI⟩
      case round =>
        clear H HI cl fl ca ct cy
        try clear e0
        obtain ⟨i, s1, rfl, HA, HK, HI⟩ := hrel
        cases gk with
        | zero => exact absurd HA.out (by simp [impl_parts.t])
        | succ k1 =>
          have h := HA.out
          clear HA
          rw [impl_parts.t1] at h
          obtain ⟨⟨A, c, g1, g2, M, g3, gs_, gm_⟩, ga_, gt_, gy_, gl_, gz_⟩ := HI.out
          have GM := Aside0.mk gm_
          clear gm_
          have cl : _ = some _ := blk_cell g1 0
          have fl := blk_frozen g1 0
          have ca : _ = some _ := blk_cell ga_ 0
          have ct : _ = some _ := blk_cell gt_ 0
          have cy : _ = some _ := blk_cell gy_ 0

          have GR := Aside0.mk (Kd.R_reads' g3).2.2
          have GC := Aside0.mk g2
          have GI := Aside0.mk (And.intro g1 (And.intro g3 (And.intro ga_ (And.intro gt_ (And.intro gy_ (And.intro gs_ (And.intro gl_ gz_)))))))
          have E1 := Aside0.mk (Kd.R_ne g3 g1 (by decide))
          have E2 := Aside0.mk (Kd.R_ne g3 ga_ (by decide))
          have E3 := Aside0.mk (Kd.R_ne g3 gt_ (by decide))
          have E4 := Aside0.mk (Kd.R_ne g3 gy_ (by decide))
          clear g1 g2 g3 ga_ gt_ gy_ gs_ gl_ gz_
          by_cases c1 : i ≤ m
          · rw [if_pos c1] at h
            have c1b : decide (i ≤ m) = true := decide_eq_true c1
            clear c1
            by_cases c2 : 0 ≤ i
            · rw [if_pos c2] at h
              have c2b : decide (0 ≤ i) = true := decide_eq_true c2
              clear c2
              obtain ⟨c', hc', h⟩ := Option.bind_eq_some_iff.mp h
              have HC := Aside0.mk hc'
              clear hc'
              by_cases c3 : c' = 3
              · rw [if_pos c3] at h
                have c3b : (c' == 3) = true := beq_iff_eq.mpr c3
                clear c3
                have H := Aside0.mk h
                clear h
                go_wp2_with (first
                  | (go_at_call 55; refine (impl_countOf.calls k1 _ _ l i c' _ GR.out GC.out HC.out).mono ?_; rintro e w1 ⟨rfl, ⟨⟨nd, rfl⟩⟩⟩; have HI2 := Aside0.mk (HI.out.below HM.out HG.out.2.2.2.2.2.1 (pw_below_drewN (Below.refl _ _) nd))))
                go_roundg k1
                case measure => omega
                case rel => exact ⟨wrap64 (i + 1), s1, (by first | rfl | (simp; done) | (simp [*]; done)), H, ⟨by have := HK.out; omega⟩, HI2⟩
              · rw [if_neg c3] at h
                have c3b : (c' == 3) = false := beq_eq_false_iff_ne.mpr c3
                clear c3
                cases k1 with
                | zero => exact absurd h (by simp [impl_parts.t])
                | succ k2 =>
                rw [impl_parts.t2] at h
                by_cases c4 : l.length < 1000
                · rw [if_pos c4] at h
                  have LM := Aside0.mk c4
                  clear c4
                  obtain ⟨l1, hl1⟩ : ∃ y : List Int, y = l ++ [i] := ⟨_, rfl⟩
                  have Nl := Aside0.mk hl1
                  clear hl1
                  by_cases c5 : i = m
                  · rw [if_pos c5] at h
                    have c5b : (i == m) = true := beq_iff_eq.mpr c5
                    clear c5
                    obtain ⟨s2, h2, h⟩ := Option.bind_eq_some_iff.mp h
                    rw [← Nl.out] at h2
                    have H2 := Aside0.mk h2
                    have H := Aside0.mk h
                    clear h h2
                    go_wp2_with (first | (go_at_call 55; refine (impl_countOf.calls (k2 + 1) _ _ l i c' _ GR.out GC.out HC.out).mono ?_; rintro e wc ⟨rfl, ⟨⟨nd, rfl⟩⟩⟩) | ((with_reducible refine gate_builtin (b := .append) (xs := #[.tmp 32, .tmp 34]) rfl ?_); at_builtin; refine Kd.R_append (Kd.int .i64) (w0 := wr) B1 rfl (.tmp 32) (.tmp 34) 22 3 (.int .i64 0) 8 rfl Tryd.underlying22 info3 rfl (by decide) (by omega) (.slice A l.length c) l i [.int .i64 i] (fun k => ¬ M k) (fun _ => False) rfl rfl ?aP (fun _ hk => hk.elim) ?aF ?aO ?aB ?aS ?aL ?_; (case aP => exact rfl); (case aB => exact (by repeat (first | exact Below.refl _ _ | apply pw_below_drewN | apply below_drew1))); (case aF => exact (fun k hk hm => absurd (GM.out k hm).1 (Nat.not_lt.mpr hk))); (case aO => exact (by (with_reducible repeat (first | apply Kd.R_alloc | apply Kd.R_drewN | apply Kd.R_drew)); exact GI.out.2.1)); (case aS => exact GI.out.2.2.2.2.2.2.2); (case aL => have := LM.out; omega); intro v1 w1 ho hb hg hat; rw [← Nl.out] at ho; obtain ⟨A1, c1, rfl⟩ := Kd.R_slice ho; have q1 := blk_grown (w := (wr.drewN nd)) GI.out.1 hg E1.out; have dl : _ = some _ := blk_cell q1 0; have df := blk_frozen q1 0; have HI3 := Aside0.mk (impl_parts.I.put q1 (blk_grown (w := (wr.drewN nd)) GI.out.2.2.1 hg E2.out) HG.out.2.2.2.2.1 (blk_grown (w := (wr.drewN nd)) GI.out.2.2.2.1 hg E3.out) (blk_grown (w := (wr.drewN nd)) GI.out.2.2.2.2.1 hg E4.out) HM.out (HM.out _ M _ _ GI.out.2.2.2.2.2.1 hb (fun k hk => hg.block k (GM.out k hk).1 (fun he => GI.out.2.1.1 k he.symm hk))) (fun k hk => ⟨Nat.lt_of_lt_of_le (GM.out k hk).1 hb.size, (GM.out k hk).2⟩) (GI.out.2.2.2.2.2.2.1.trans (Below.mono hb HG.out.2.2.2.2.2.1)) (Nat.le_trans GI.out.2.2.2.2.2.2.2 hb.size) HG.out.1 HG.out.2.2.2.2.2.1 (Kd.R_reads' ho).2.1 ho); have dy : _ = some _ := blk_cell HI3.out.try_ 0; clear q1 ho hb hg hat))
                    refine (IH.out k2 (by have := HK.out; omega) l1 (wrap64 (m + 1)) s1 s2 _ H2.out HI3.out).mono ?_
                    rintro e w3 ⟨rfl, hI4⟩
                    have HI4 := Aside0.mk hI4
                    clear hI4 dl df dy HI3
                    obtain ⟨⟨A3, c3, r1, r2, M3, r3, rs, rm⟩, ra, rt, ry, rl, rz⟩ := HI4.out
                    have el : _ = some _ := blk_cell r1 0
                    have ef := blk_frozen r1 0
                    have hn : l1.length = l.length + 1 := by rw [Nl.out]; simp
                    have hw : IntKind.i64.wrap ((l1.length : Int) - 1) = (l.length : Int) := by rw [i64_w]; have := LM.out; unfold wrap64; omega
                    obtain ⟨i0, hi0, _, _, _⟩ := info_parts info3
                    have hcut : ∀ W : World, (Instr.slice 22 (.slice A3 l1.length c3) none (some (.int .i64 (l.length : Int))) none).run Tryd.prog W = .ok (.slice A3 l.length c3) W := fun W => by
                      have := cut_to (P := Tryd.prog) 22 3 .i64 Tryd.underlying22 hi0 A3 l1.length c3 (l.length : Int) (by omega) (by omega) r2 W
                      rwa [Int.toNat_natCast] at this
                    have HI5 := Aside0.mk (impl_parts.I.put (l := l) (A := A3) (c := c3) r1 ra HG.out.2.2.2.2.1 rt ry HM.out rs rm rl rz HG.out.1 HG.out.2.2.2.2.2.1 (by omega) (by
                      have := Kd.R_take (m := l.length) r3 (by omega)
                      rwa [Nl.out, List.take_left] at this))
                    have hwn := Aside0.mk hn
                    clear r1 r2 r3 rm ra rt ry rs rl rz HI4 hi0 hn
                    go_wp2
                    go_roundg k2
                    case measure => omega
                    case rel => exact ⟨wrap64 (i + 1), s2, (by first | rfl | (simp; done) | (simp [*]; done)), H, ⟨by have := HK.out; omega⟩, HI5⟩
                  · rw [if_neg c5] at h
                    have c5b : (i == m) = false := beq_eq_false_iff_ne.mpr c5
                    clear c5
                    obtain ⟨s2, h2, h⟩ := Option.bind_eq_some_iff.mp h
                    rw [← Nl.out] at h2
                    have H2 := Aside0.mk h2
                    have H := Aside0.mk h
                    clear h h2
                    go_wp2_with (first | (go_at_call 55; refine (impl_countOf.calls (k2 + 1) _ _ l i c' _ GR.out GC.out HC.out).mono ?_; rintro e wc ⟨rfl, ⟨⟨nd, rfl⟩⟩⟩) | ((with_reducible refine gate_builtin (b := .append) (xs := #[.tmp 32, .tmp 34]) rfl ?_); at_builtin; refine Kd.R_append (Kd.int .i64) (w0 := wr) B1 rfl (.tmp 32) (.tmp 34) 22 3 (.int .i64 0) 8 rfl Tryd.underlying22 info3 rfl (by decide) (by omega) (.slice A l.length c) l i [.int .i64 i] (fun k => ¬ M k) (fun _ => False) rfl rfl ?aP (fun _ hk => hk.elim) ?aF ?aO ?aB ?aS ?aL ?_; (case aP => exact rfl); (case aB => exact (by repeat (first | exact Below.refl _ _ | apply pw_below_drewN | apply below_drew1))); (case aF => exact (fun k hk hm => absurd (GM.out k hm).1 (Nat.not_lt.mpr hk))); (case aO => exact (by (with_reducible repeat (first | apply Kd.R_alloc | apply Kd.R_drewN | apply Kd.R_drew)); exact GI.out.2.1)); (case aS => exact GI.out.2.2.2.2.2.2.2); (case aL => have := LM.out; omega); intro v1 w1 ho hb hg hat; rw [← Nl.out] at ho; obtain ⟨A1, c1, rfl⟩ := Kd.R_slice ho; have q1 := blk_grown (w := (wr.drewN nd)) GI.out.1 hg E1.out; have dl : _ = some _ := blk_cell q1 0; have df := blk_frozen q1 0; have HI3 := Aside0.mk (impl_parts.I.put q1 (blk_grown (w := (wr.drewN nd)) GI.out.2.2.1 hg E2.out) HG.out.2.2.2.2.1 (blk_grown (w := (wr.drewN nd)) GI.out.2.2.2.1 hg E3.out) (blk_grown (w := (wr.drewN nd)) GI.out.2.2.2.2.1 hg E4.out) HM.out (HM.out _ M _ _ GI.out.2.2.2.2.2.1 hb (fun k hk => hg.block k (GM.out k hk).1 (fun he => GI.out.2.1.1 k he.symm hk))) (fun k hk => ⟨Nat.lt_of_lt_of_le (GM.out k hk).1 hb.size, (GM.out k hk).2⟩) (GI.out.2.2.2.2.2.2.1.trans (Below.mono hb HG.out.2.2.2.2.2.1)) (Nat.le_trans GI.out.2.2.2.2.2.2.2 hb.size) HG.out.1 HG.out.2.2.2.2.2.1 (Kd.R_reads' ho).2.1 ho); have dy : _ = some _ := blk_cell HI3.out.try_ 0; clear q1 ho hb hg hat))
                    refine (IH.out k2 (by have := HK.out; omega) l1 m s1 s2 _ H2.out HI3.out).mono ?_
                    rintro e w3 ⟨rfl, hI4⟩
                    have HI4 := Aside0.mk hI4
                    clear hI4 dl df dy HI3
                    obtain ⟨⟨A3, c3, r1, r2, M3, r3, rs, rm⟩, ra, rt, ry, rl, rz⟩ := HI4.out
                    have el : _ = some _ := blk_cell r1 0
                    have ef := blk_frozen r1 0
                    have hn : l1.length = l.length + 1 := by rw [Nl.out]; simp
                    have hw : IntKind.i64.wrap ((l1.length : Int) - 1) = (l.length : Int) := by rw [i64_w]; have := LM.out; unfold wrap64; omega
                    obtain ⟨i0, hi0, _, _, _⟩ := info_parts info3
                    have hcut : ∀ W : World, (Instr.slice 22 (.slice A3 l1.length c3) none (some (.int .i64 (l.length : Int))) none).run Tryd.prog W = .ok (.slice A3 l.length c3) W := fun W => by
                      have := cut_to (P := Tryd.prog) 22 3 .i64 Tryd.underlying22 hi0 A3 l1.length c3 (l.length : Int) (by omega) (by omega) r2 W
                      rwa [Int.toNat_natCast] at this
                    have HI5 := Aside0.mk (impl_parts.I.put (l := l) (A := A3) (c := c3) r1 ra HG.out.2.2.2.2.1 rt ry HM.out rs rm rl rz HG.out.1 HG.out.2.2.2.2.2.1 (by omega) (by
                      have := Kd.R_take (m := l.length) r3 (by omega)
                      rwa [Nl.out, List.take_left] at this))
                    have hwn := Aside0.mk hn
                    clear r1 r2 r3 rm ra rt ry rs rl rz HI4 hi0 hn
                    go_wp2
                    go_roundg k2
                    case measure => omega
                    case rel => exact ⟨wrap64 (i + 1), s2, (by first | rfl | (simp; done) | (simp [*]; done)), H, ⟨by have := HK.out; omega⟩, HI5⟩
                · rw [if_neg c4] at h
                  exact absurd h (by simp)
            · rw [if_neg c2] at h
              have c2b : decide (0 ≤ i) = false := decide_eq_false c2
              clear c2
              cases k1 with
              | zero => exact absurd h (by simp [impl_parts.t])
              | succ k2 =>
              rw [impl_parts.t2] at h
              by_cases c4 : l.length < 1000
              · rw [if_pos c4] at h
                have LM := Aside0.mk c4
                clear c4
                obtain ⟨l1, hl1⟩ : ∃ y : List Int, y = l ++ [i] := ⟨_, rfl⟩
                have Nl := Aside0.mk hl1
                clear hl1
                by_cases c5 : i = m
                · rw [if_pos c5] at h
                  have c5b : (i == m) = true := beq_iff_eq.mpr c5
                  clear c5
                  obtain ⟨s2, h2, h⟩ := Option.bind_eq_some_iff.mp h
                  rw [← Nl.out] at h2
                  have H2 := Aside0.mk h2
                  have H := Aside0.mk h
                  clear h h2
                  go_wp2_with (first | ((with_reducible refine gate_builtin (b := .append) (xs := #[.tmp 32, .tmp 34]) rfl ?_); at_builtin; refine Kd.R_append (Kd.int .i64) (w0 := wr) B1 rfl (.tmp 32) (.tmp 34) 22 3 (.int .i64 0) 8 rfl Tryd.underlying22 info3 rfl (by decide) (by omega) (.slice A l.length c) l i [.int .i64 i] (fun k => ¬ M k) (fun _ => False) rfl rfl ?aP (fun _ hk => hk.elim) ?aF ?aO ?aB ?aS ?aL ?_; (case aP => exact rfl); (case aB => exact (by repeat (first | exact Below.refl _ _ | apply pw_below_drewN | apply below_drew1))); (case aF => exact (fun k hk hm => absurd (GM.out k hm).1 (Nat.not_lt.mpr hk))); (case aO => exact (by (with_reducible repeat (first | apply Kd.R_alloc | apply Kd.R_drewN | apply Kd.R_drew)); exact GI.out.2.1)); (case aS => exact GI.out.2.2.2.2.2.2.2); (case aL => have := LM.out; omega); intro v1 w1 ho hb hg hat; rw [← Nl.out] at ho; obtain ⟨A1, c1, rfl⟩ := Kd.R_slice ho; have q1 := blk_grown (w := wr) GI.out.1 hg E1.out; have dl : _ = some _ := blk_cell q1 0; have df := blk_frozen q1 0; have HI3 := Aside0.mk (impl_parts.I.put q1 (blk_grown (w := wr) GI.out.2.2.1 hg E2.out) HG.out.2.2.2.2.1 (blk_grown (w := wr) GI.out.2.2.2.1 hg E3.out) (blk_grown (w := wr) GI.out.2.2.2.2.1 hg E4.out) HM.out (HM.out _ M _ _ GI.out.2.2.2.2.2.1 hb (fun k hk => hg.block k (GM.out k hk).1 (fun he => GI.out.2.1.1 k he.symm hk))) (fun k hk => ⟨Nat.lt_of_lt_of_le (GM.out k hk).1 hb.size, (GM.out k hk).2⟩) (GI.out.2.2.2.2.2.2.1.trans (Below.mono hb HG.out.2.2.2.2.2.1)) (Nat.le_trans GI.out.2.2.2.2.2.2.2 hb.size) HG.out.1 HG.out.2.2.2.2.2.1 (Kd.R_reads' ho).2.1 ho); have dy : _ = some _ := blk_cell HI3.out.try_ 0; clear q1 ho hb hg hat))
                  refine (IH.out k2 (by have := HK.out; omega) l1 (wrap64 (m + 1)) s1 s2 _ H2.out HI3.out).mono ?_
                  rintro e w3 ⟨rfl, hI4⟩
                  have HI4 := Aside0.mk hI4
                  clear hI4 dl df dy HI3
                  obtain ⟨⟨A3, c3, r1, r2, M3, r3, rs, rm⟩, ra, rt, ry, rl, rz⟩ := HI4.out
                  have el : _ = some _ := blk_cell r1 0
                  have ef := blk_frozen r1 0
                  have hn : l1.length = l.length + 1 := by rw [Nl.out]; simp
                  have hw : IntKind.i64.wrap ((l1.length : Int) - 1) = (l.length : Int) := by rw [i64_w]; have := LM.out; unfold wrap64; omega
                  obtain ⟨i0, hi0, _, _, _⟩ := info_parts info3
                  have hcut : ∀ W : World, (Instr.slice 22 (.slice A3 l1.length c3) none (some (.int .i64 (l.length : Int))) none).run Tryd.prog W = .ok (.slice A3 l.length c3) W := fun W => by
                    have := cut_to (P := Tryd.prog) 22 3 .i64 Tryd.underlying22 hi0 A3 l1.length c3 (l.length : Int) (by omega) (by omega) r2 W
                    rwa [Int.toNat_natCast] at this
                  have HI5 := Aside0.mk (impl_parts.I.put (l := l) (A := A3) (c := c3) r1 ra HG.out.2.2.2.2.1 rt ry HM.out rs rm rl rz HG.out.1 HG.out.2.2.2.2.2.1 (by omega) (by
                    have := Kd.R_take (m := l.length) r3 (by omega)
                    rwa [Nl.out, List.take_left] at this))
                  have hwn := Aside0.mk hn
                  clear r1 r2 r3 rm ra rt ry rs rl rz HI4 hi0 hn
                  go_wp2
                  go_roundg k2
                  case measure => omega
                  case rel => exact ⟨wrap64 (i + 1), s2, (by first | rfl | (simp; done) | (simp [*]; done)), H, ⟨by have := HK.out; omega⟩, HI5⟩
                · rw [if_neg c5] at h
                  have c5b : (i == m) = false := beq_eq_false_iff_ne.mpr c5
                  clear c5
                  obtain ⟨s2, h2, h⟩ := Option.bind_eq_some_iff.mp h
                  rw [← Nl.out] at h2
                  have H2 := Aside0.mk h2
                  have H := Aside0.mk h
                  clear h h2
                  go_wp2_with (first | ((with_reducible refine gate_builtin (b := .append) (xs := #[.tmp 32, .tmp 34]) rfl ?_); at_builtin; refine Kd.R_append (Kd.int .i64) (w0 := wr) B1 rfl (.tmp 32) (.tmp 34) 22 3 (.int .i64 0) 8 rfl Tryd.underlying22 info3 rfl (by decide) (by omega) (.slice A l.length c) l i [.int .i64 i] (fun k => ¬ M k) (fun _ => False) rfl rfl ?aP (fun _ hk => hk.elim) ?aF ?aO ?aB ?aS ?aL ?_; (case aP => exact rfl); (case aB => exact (by repeat (first | exact Below.refl _ _ | apply pw_below_drewN | apply below_drew1))); (case aF => exact (fun k hk hm => absurd (GM.out k hm).1 (Nat.not_lt.mpr hk))); (case aO => exact (by (with_reducible repeat (first | apply Kd.R_alloc | apply Kd.R_drewN | apply Kd.R_drew)); exact GI.out.2.1)); (case aS => exact GI.out.2.2.2.2.2.2.2); (case aL => have := LM.out; omega); intro v1 w1 ho hb hg hat; rw [← Nl.out] at ho; obtain ⟨A1, c1, rfl⟩ := Kd.R_slice ho; have q1 := blk_grown (w := wr) GI.out.1 hg E1.out; have dl : _ = some _ := blk_cell q1 0; have df := blk_frozen q1 0; have HI3 := Aside0.mk (impl_parts.I.put q1 (blk_grown (w := wr) GI.out.2.2.1 hg E2.out) HG.out.2.2.2.2.1 (blk_grown (w := wr) GI.out.2.2.2.1 hg E3.out) (blk_grown (w := wr) GI.out.2.2.2.2.1 hg E4.out) HM.out (HM.out _ M _ _ GI.out.2.2.2.2.2.1 hb (fun k hk => hg.block k (GM.out k hk).1 (fun he => GI.out.2.1.1 k he.symm hk))) (fun k hk => ⟨Nat.lt_of_lt_of_le (GM.out k hk).1 hb.size, (GM.out k hk).2⟩) (GI.out.2.2.2.2.2.2.1.trans (Below.mono hb HG.out.2.2.2.2.2.1)) (Nat.le_trans GI.out.2.2.2.2.2.2.2 hb.size) HG.out.1 HG.out.2.2.2.2.2.1 (Kd.R_reads' ho).2.1 ho); have dy : _ = some _ := blk_cell HI3.out.try_ 0; clear q1 ho hb hg hat))
                  refine (IH.out k2 (by have := HK.out; omega) l1 m s1 s2 _ H2.out HI3.out).mono ?_
                  rintro e w3 ⟨rfl, hI4⟩
                  have HI4 := Aside0.mk hI4
                  clear hI4 dl df dy HI3
                  obtain ⟨⟨A3, c3, r1, r2, M3, r3, rs, rm⟩, ra, rt, ry, rl, rz⟩ := HI4.out
                  have el : _ = some _ := blk_cell r1 0
                  have ef := blk_frozen r1 0
                  have hn : l1.length = l.length + 1 := by rw [Nl.out]; simp
                  have hw : IntKind.i64.wrap ((l1.length : Int) - 1) = (l.length : Int) := by rw [i64_w]; have := LM.out; unfold wrap64; omega
                  obtain ⟨i0, hi0, _, _, _⟩ := info_parts info3
                  have hcut : ∀ W : World, (Instr.slice 22 (.slice A3 l1.length c3) none (some (.int .i64 (l.length : Int))) none).run Tryd.prog W = .ok (.slice A3 l.length c3) W := fun W => by
                    have := cut_to (P := Tryd.prog) 22 3 .i64 Tryd.underlying22 hi0 A3 l1.length c3 (l.length : Int) (by omega) (by omega) r2 W
                    rwa [Int.toNat_natCast] at this
                  have HI5 := Aside0.mk (impl_parts.I.put (l := l) (A := A3) (c := c3) r1 ra HG.out.2.2.2.2.1 rt ry HM.out rs rm rl rz HG.out.1 HG.out.2.2.2.2.2.1 (by omega) (by
                    have := Kd.R_take (m := l.length) r3 (by omega)
                    rwa [Nl.out, List.take_left] at this))
                  have hwn := Aside0.mk hn
                  clear r1 r2 r3 rm ra rt ry rs rl rz HI4 hi0 hn
                  go_wp2
                  go_roundg k2
                  case measure => omega
                  case rel => exact ⟨wrap64 (i + 1), s2, (by first | rfl | (simp; done) | (simp [*]; done)), H, ⟨by have := HK.out; omega⟩, HI5⟩
              · rw [if_neg c4] at h
                exact absurd h (by simp)
          · rw [if_neg c1] at h
            have c1b : decide (i ≤ m) = false := decide_eq_false c1
            clear c1
            obtain rfl := Option.some.inj h
            go_wp2
            go_end0
            exact ⟨rfl, HI.out⟩
theorem impl_parts.heap_new {W : World} {o : Obj} {g : Nat} (h : g = W.heap.size) : (W.alloc o).heap[g]? = some o := by
  subst h
  exact heap_alloc_new W o
set_option maxHeartbeats 8000000 in
set_option maxRecDepth 100000 in
/-- All part lists, told one behind the other to a function value. -/
theorem impl_parts.callsM {S : Type} (step : S → List Int → Option S) (K : Nat) (fn : Func) (hK : Tryd.prog.funcs[K]? = some fn) (hKn : (fn.name == "runtime.NumGoroutine") = false) (hKb : fn.body.isSome = true) (caps : Array Value) (B0 : Nat) (R : S → (Nat → Prop) → World → Prop)
    (k : Nat) (A0 : Option Addr) (c0 : Nat) (a : List Int) (s0 s1 : S) (w : World)
    (hmove : ∀ s M w1 w2, R s M w1 → Below w.heap.size w1 w2 → (∀ k, M k → w2.heap[k]? = w1.heap[k]?) → R s M w2)
    (htell : ∀ s s' M xs A c w1, R s M w1 → (∀ k, M k → k < w1.heap.size) → w.heap.size ≤ w1.heap.size → Kd.C (Kd.int .i64) w1 A xs.length xs → xs.length ≤ c → step s xs = some s' → Calls Tryd.prog K (#[.slice A xs.length c] ++ caps) w1 fun e w2 => e = .returned (.tuple #[]) ∧ (∃ M', R s' M' w2 ∧ ∀ k, M' k → (M k ∨ w1.heap.size ≤ k) ∧ k < w2.heap.size) ∧ Below B0 w1 w2 ∧ ∀ k, w.heap.size ≤ k → k < w1.heap.size → w2.heap[k]? = w1.heap[k]?)
    (hB0 : B0 ≤ w.heap.size) (hr0 : ∀ w', Below B0 w w' → Kd.C (Kd.int .i64) w' A0 a.length a) (hc0 : a.length ≤ c0) (hs : R s0 (fun _ => False) w) (h : impl_parts.f step k a s0 = some s1) :
    Calls Tryd.prog 34 #[.slice A0 a.length c0, .func (.func K) #[] caps] w fun e w' => e = .returned (.tuple #[]) ∧ (∃ M, R s1 M w') ∧ Below B0 w w' := by
  unfold impl_parts.f at h
  by_cases hl : a.length ≤ 1000
  · rw [if_pos hl] at h
    have HT := Aside0.mk (impl_parts.tries step K fn hK hKn hKb caps a A0 c0 B0 w.heap.size (w.heap.size + 1 + 1 + 1) w.heap.size (w.heap.size + 1) (w.heap.size + 1 + 1 + 1 + 1) R w hmove htell (by omega) (by omega) (by omega) (by omega) (by omega) hB0 hr0 hc0 k [] 0 s0 s1)
    have H := Aside0.mk h
    have HM := Aside0.mk hmove
    have HS := Aside0.mk hs
    have HB0 := Aside0.mk hB0
    clear h hmove htell hB0 hr0 hc0 hs hK hKn hKb
    obtain ⟨i0, hi0, hz0, hsz0, hby0⟩ := info_parts info3
    have hmk : ∀ W : World, (Instr.makeSlice 22 (.int .i64 0) (.int .i64 (a.length : Int))).run Tryd.prog W = .ok (.slice (some ⟨W.heap.size, 0, none⟩) 0 a.length) (W.alloc (.cells (madeCells #[.int .i64 0] a.length) 3)) := fun W => by
      have := run_make (P := Tryd.prog) W 22 3 i0 (.int .i64 0) Tryd.underlying22 hi0 hz0 .i64 .i64 0 (a.length : Int) (by omega) (by omega) (by rw [hby0]; omega) (by omega)
      rwa [hsz0, Nat.mul_one, Int.toNat_natCast] at this
    clear hi0 hz0 hsz0 hby0
    have hmf : ∀ (fn : Fn) (first cap : Array Value) (w : World), (Instr.makeFunc fn first cap).run Tryd.prog w = .ok (.func fn first cap) w := fun _ _ _ _ => rfl
    have hsf : ∀ (w : World) (a : Addr) (fn : Fn) (first cap : Array Value), (Go.store a (.func fn first cap)).run Tryd.prog w = stored Tryd.prog w a (.func fn first cap) .plain := fun w a fn first cap => run_store _ w a _ _ rfl
    have HL := Aside0.mk hl
    clear hl
    have by_ : (((((w.alloc (Obj.cells #[.slice A0 a.length c0] 22)).alloc (Obj.cells #[.func (.func K) #[] caps] 57)).alloc (Obj.cells (madeCells #[.int .i64 0] a.length) 3)).alloc (Obj.cells #[.slice (some ⟨w.heap.size + 1 + 1, 0, none⟩) 0 a.length] 22)).alloc (Obj.cells #[.nilFunc] 66)).heap[w.heap.size + 1 + 1 + 1 + 1]? = some (Obj.cells #[.nilFunc] 66) := impl_parts.heap_new (by simp)
    have cy : _ = some _ := blk_cell by_ 0
    have fy := blk_frozen by_ 0
    have BY := Aside0.mk by_
    clear by_
    go_enter Tryd.func34, Tryd.ntmps34
    go_wp2_with fail
    have hb : Below w.heap.size w _ := below_alloc (below_alloc (below_alloc (below_alloc (below_alloc (Below.refl w.heap.size w) (Obj.cells #[.slice A0 a.length c0] 22)) (Obj.cells #[.func (.func K) #[] caps] 57)) (Obj.cells (madeCells #[.int .i64 0] a.length) 3)) (Obj.cells #[.slice (some ⟨w.heap.size + 1 + 1, 0, none⟩) 0 a.length] 22)) (Obj.cells #[.func (.func 53) #[] #[.pointer (some ⟨w.heap.size + 1 + 1 + 1, 0, none⟩), .pointer (some ⟨w.heap.size, 0, none⟩), .pointer (some ⟨w.heap.size + 1, 0, none⟩), .pointer (some ⟨w.heap.size + 1 + 1 + 1 + 1, 0, none⟩)]] 66)
    have hrow : Kd.R (Kd.int .i64) 3 (((w.alloc (Obj.cells #[.slice A0 a.length c0] 22)).alloc (Obj.cells #[.func (.func K) #[] caps] 57)).alloc (Obj.cells (madeCells #[.int .i64 0] a.length) 3)) w.heap.size (fun _ => True) (.slice (some ⟨w.heap.size + 1 + 1, 0, none⟩) ([] : List Int).length a.length) [] := by
      have := World.ownsRow_made (e := 3) (size := 1) (base := w.heap.size) ((w.alloc (Obj.cells #[.slice A0 a.length c0] 22)).alloc (Obj.cells #[.func (.func K) #[] caps] 57)) (madeCells #[.int .i64 0] a.length) a.length (by simp; omega) (by have := HL.out; unfold maxLen; omega) (by rw [size_madeCells]; omega)
      exact Kd.R_of_own (by have h2 := this; simp at h2; exact h2) (fun _ _ => trivial)
    refine (HT.out _ H.out ⟨⟨_, _, ?_, Nat.zero_le _, fun _ => False, Kd.R_mono (Kd.R_alloc (Kd.R_alloc hrow _) _) (fun _ _ h => h), HM.out _ _ _ _ HS.out hb (fun _ h => h.elim), fun _ h => h.elim⟩, ?_, ?_, ?_, Below.mono hb HB0.out, hb.size⟩).mono ?_
    · repeat (first | (refine impl_parts.heap_new ?_; simp; done) | refine blk_alloc ?_ _)
    · repeat (first | (refine impl_parts.heap_new ?_; simp; done) | refine blk_alloc ?_ _)
    · repeat (first | (refine impl_parts.heap_new ?_; simp; done) | refine blk_alloc ?_ _)
    · repeat (first | (refine impl_parts.heap_new ?_; simp; done) | refine blk_alloc ?_ _)
    rintro e w1 ⟨rfl, hI⟩
    have HI := Aside0.mk hI
    clear hI hb hrow
    go_wp2
    go_end0
    exact ⟨rfl, HI.out.state, HI.out.low⟩
  · rw [if_neg hl] at h
    exact absurd h (by simp)
/-- The same, where the state keeps no block of its own. -/
theorem impl_parts.calls {S : Type} (step : S → List Int → Option S) (K : Nat) (fn : Func) (hK : Tryd.prog.funcs[K]? = some fn) (hKn : (fn.name == "runtime.NumGoroutine") = false) (hKb : fn.body.isSome = true) (caps : Array Value) (B0 : Nat) (R : S → World → Prop)
    (k : Nat) (A0 : Option Addr) (c0 : Nat) (a : List Int) (s0 s1 : S) (w : World)
    (hmove : ∀ s w1 w2, R s w1 → Below w.heap.size w1 w2 → R s w2)
    (htell : ∀ s s' xs A c w1, R s w1 → w.heap.size ≤ w1.heap.size → Kd.C (Kd.int .i64) w1 A xs.length xs → xs.length ≤ c → step s xs = some s' → Calls Tryd.prog K (#[.slice A xs.length c] ++ caps) w1 fun e w2 => e = .returned (.tuple #[]) ∧ R s' w2 ∧ Below B0 w1 w2 ∧ ∀ k, w.heap.size ≤ k → k < w1.heap.size → w2.heap[k]? = w1.heap[k]?)
    (hB0 : B0 ≤ w.heap.size) (hr0 : ∀ w', Below B0 w w' → Kd.C (Kd.int .i64) w' A0 a.length a) (hc0 : a.length ≤ c0) (hs : R s0 w) (h : impl_parts.f step k a s0 = some s1) :
    Calls Tryd.prog 34 #[.slice A0 a.length c0, .func (.func K) #[] caps] w fun e w' => e = .returned (.tuple #[]) ∧ R s1 w' ∧ Below B0 w w' := by
  refine (impl_parts.callsM step K fn hK hKn hKb caps B0 (fun s M w => R s w ∧ ∀ k, ¬ M k) k A0 c0 a s0 s1 w (fun s M w1 w2 h1 h2 _ => ⟨hmove s w1 w2 h1.1 h2, h1.2⟩) ?_ hB0 hr0 hc0 ⟨hs, fun _ h => h⟩ h).mono ?_
  · intro s s' M xs A c w1 h1 _ h2 h3 h4 h5
    refine (htell s s' xs A c w1 h1.1 h2 h3 h4 h5).mono ?_
    rintro e w2 ⟨h1, h2, h3, h4⟩
    exact ⟨h1, ⟨fun _ => False, ⟨h2, fun _ h => h⟩, fun _ h => h.elim⟩, h3, h4⟩
  · rintro e w2 ⟨h1, ⟨M, h2, _⟩, h3⟩
    exact ⟨h1, h2, h3⟩

/-! ### slices_Equal_int_int: function 51 -/
def slices_Equal_int_int.l0 : Nat → List Int → List Int → Int → Int → Option (Bool)
  | 0, _, _, _, _ => none
  | k + 1, x0, x1, x12, x13 => if x13 < x12 then (if 0 ≤ x13 then (if x13 < (x0.length : Int) then (if x13 < (x1.length : Int) then (if (rd x0 x13) = (rd x1 x13) then (slices_Equal_int_int.l0 k x0 x1 x12 (wrap64 (x13 + 1))) else (some false)) else (none)) else (none)) else (none)) else (some true)
def slices_Equal_int_int.f (k : Nat) (l0 : List Int) (l1 : List Int) : Option (Bool) := if (l0.length : Int) = (l1.length : Int) then (slices_Equal_int_int.l0 k l0 l1 (l0.length : Int) 0) else (some false)
theorem slices_Equal_int_int.mono_l : ∀ k, (∀ y0 y1 y2 y3, LeO (slices_Equal_int_int.l0 k y0 y1 y2 y3) (slices_Equal_int_int.l0 (k + 1) y0 y1 y2 y3))
  | 0 => fun _ _ _ _ r h => by simp [slices_Equal_int_int.l0] at h
  | k + 1 => by
    have ih0 := slices_Equal_int_int.mono_l k
    · intro y0 y1 y2 y3
      unfold slices_Equal_int_int.l0
      repeat' first
      | (with_reducible exact ih0 _ _ _ _)
      | (with_reducible exact LeO.refl _)
      | (with_reducible exact LeO.none _)
      | (with_reducible refine LeO.ite ?_ ?_)
      | (with_reducible refine LeO.bind ?_ (fun _ => ?_))
      | exact ih0 _ _ _ _
      | exact LeO.none _
      | refine LeO.ite ?_ ?_
      | refine LeO.bind ?_ (fun _ => ?_)
theorem slices_Equal_int_int.mono : ∀ a0 a1 k, LeO (slices_Equal_int_int.f k a0 a1) (slices_Equal_int_int.f (k + 1) a0 a1) := by
  intro a0 a1 k
  have ih0 := slices_Equal_int_int.mono_l k
  unfold slices_Equal_int_int.f
  repeat' first
      | (with_reducible exact ih0 _ _ _ _)
      | (with_reducible exact LeO.refl _)
      | (with_reducible exact LeO.none _)
      | (with_reducible refine LeO.ite ?_ ?_)
      | (with_reducible refine LeO.bind ?_ (fun _ => ?_))
      | exact ih0 _ _ _ _
      | exact LeO.none _
      | refine LeO.ite ?_ ?_
      | refine LeO.bind ?_ (fun _ => ?_)
set_option maxHeartbeats 8000000 in
set_option maxRecDepth 100000 in
theorem slices_Equal_int_int.calls (k : Nat) (A0 : Option Addr) (c0 : Nat) (l0 : List Int) (A1 : Option Addr) (c1 : Nat) (l1 : List Int) (r : Bool) (w : World) (hr0 : Kd.C (Kd.int .i64) w A0 l0.length l0) (hc0 : l0.length ≤ c0) (hr1 : Kd.C (Kd.int .i64) w A1 l1.length l1) (hc1 : l1.length ≤ c1) (h : slices_Equal_int_int.f k l0 l1 = some r) :
    Calls Tryd.prog 51 #[.slice A0 l0.length c0, .slice A1 l1.length c1] w fun e w' => e = .returned (.bool r) ∧ Drawn0 w w' := by
  have HR0 := Aside0.mk hr0
  have HC0 := Aside0.mk hc0
  clear hr0 hc0
  have HR1 := Aside0.mk hr1
  have HC1 := Aside0.mk hc1
  clear hr1 hc1
  have H : (if (l0.length : Int) = (l1.length : Int) then (slices_Equal_int_int.l0 k l0 l1 (l0.length : Int) 0) else (some false)) = some r := h
  clear h
  by_cases c3 : (l0.length : Int) = (l1.length : Int)
  · rw [if_pos c3] at H
    have c3b0 : ((l0.length : Int) == (l1.length : Int)) = true := beq_iff_eq.mpr c3
    have c3b1 : ((l0.length : Int) != (l1.length : Int)) = false := bne_eq_false_iff_eq.mpr c3
    have c3b2 : (l0.length == l1.length) = true := by first | simpa using c3 | (simp at c3 ⊢; omega)
    clear c3
    have H' := Aside0.mk H
    clear H
    go_enter Tryd.func51, Tryd.ntmps51
    go_wp2
    repeat (go_quiet (fail); try go_wp2)
    go_loopg [13] k (fun kq v13 w' => ∃ (x13_1 : Int), v13 = .int .i64 x13_1 ∧ Aside0 (slices_Equal_int_int.l0 kq l0 l1 (l0.length : Int) x13_1 = some r) ∧ Aside0 (kq ≤ k) ∧ Drawn0 w w')
    case atStart => exact ⟨(0), (by first | rfl | (simp; done) | (simp [*]; done)), H', ⟨Nat.le_refl _⟩, by repeat (first | exact Drawn0.refl _ | apply Drawn0.step)⟩
    case round =>
      clear H'
      try clear c1
      try clear p2
      try clear c3
      try clear c3b0
      try clear c3b1
      try clear c3b2
      obtain ⟨x13_1, rfl, HA, HK1, ⟨m1, rfl⟩⟩ := hrel
      cases gk with
      | zero => exact absurd HA.out (by simp [slices_Equal_int_int.l0])
      | succ k1 =>
        have H := HA.out
        clear HA
        simp only [slices_Equal_int_int.l0] at H
        by_cases c4 : x13_1 < (l0.length : Int)
        · rw [if_pos c4] at H
          have c4b0 : decide (x13_1 < (l0.length : Int)) = true := decide_eq_true c4
          clear c4
          by_cases c5 : 0 ≤ x13_1
          · rw [if_pos c5] at H
            have c5b0 : decide (0 ≤ x13_1) = true := decide_eq_true c5
            clear c5
            by_cases c6 : x13_1 < (l0.length : Int)
            · rw [if_pos c6] at H
              have c6b0 : decide (x13_1 < (l0.length : Int)) = true := decide_eq_true c6
              clear c6
              by_cases c7 : x13_1 < (l1.length : Int)
              · rw [if_pos c7] at H
                have c7b0 : decide (x13_1 < (l1.length : Int)) = true := decide_eq_true c7
                clear c7
                by_cases c8 : (rd l0 x13_1) = (rd l1 x13_1)
                · rw [if_pos c8] at H
                  have c8b0 : ((rd l0 x13_1) == (rd l1 x13_1)) = true := beq_iff_eq.mpr c8
                  have c8b1 : ((rd l0 x13_1) != (rd l1 x13_1)) = false := bne_eq_false_iff_eq.mpr c8
                  clear c8
                  have H' := Aside0.mk H
                  clear H
                  have p185 : 0 ≤ (x13_1 : Int) := of_decide_eq_true (by first | (with_reducible assumption) | assumption)
                  have q185 : x13_1 < (l0.length : Int) := of_decide_eq_true (by first | (with_reducible assumption) | assumption)
                  obtain ⟨ad185, e185, hx185_0⟩ := Kd.at_int HR0.out x13_1 p185 q185
                  cases e185
                  replace p185 := eq_true p185
                  replace q185 := eq_true q185
                  have p186 : 0 ≤ (x13_1 : Int) := of_decide_eq_true (by first | (with_reducible assumption) | assumption)
                  have q186 : x13_1 < (l1.length : Int) := of_decide_eq_true (by first | (with_reducible assumption) | assumption)
                  obtain ⟨ad186, e186, hx186_0⟩ := Kd.at_int HR1.out x13_1 p186 q186
                  cases e186
                  replace p186 := eq_true p186
                  replace q186 := eq_true q186
                  go_wp2
                  repeat (go_quiet (fail); try go_wp2)
                  go_roundg k1
                  case measure => have := HK1.out; omega
                  case rel => exact ⟨(wrap64 (x13_1 + 1)), (by first | rfl | (simp; done) | (simp [*]; done)), H', ⟨by have := HK1.out; omega⟩, by repeat (first | exact Drawn0.refl _ | apply Drawn0.step)⟩
                · rw [if_neg c8] at H
                  have c8b0 : ((rd l0 x13_1) == (rd l1 x13_1)) = false := beq_eq_false_iff_ne.mpr c8
                  have c8b1 : ((rd l0 x13_1) != (rd l1 x13_1)) = true := bne_iff_ne.mpr c8
                  obtain rfl := Option.some.inj H
                  have p185 : 0 ≤ (x13_1 : Int) := of_decide_eq_true (by first | (with_reducible assumption) | assumption)
                  have q185 : x13_1 < (l0.length : Int) := of_decide_eq_true (by first | (with_reducible assumption) | assumption)
                  obtain ⟨ad185, e185, hx185_0⟩ := Kd.at_int HR0.out x13_1 p185 q185
                  cases e185
                  replace p185 := eq_true p185
                  replace q185 := eq_true q185
                  have p186 : 0 ≤ (x13_1 : Int) := of_decide_eq_true (by first | (with_reducible assumption) | assumption)
                  have q186 : x13_1 < (l1.length : Int) := of_decide_eq_true (by first | (with_reducible assumption) | assumption)
                  obtain ⟨ad186, e186, hx186_0⟩ := Kd.at_int HR1.out x13_1 p186 q186
                  cases e186
                  replace p186 := eq_true p186
                  replace q186 := eq_true q186
                  go_wp2
                  repeat (go_quiet (fail); try go_wp2)
                  go_ret
                  exact ⟨by first | rfl | (simp; done) | (simp [*]; done), by repeat (first | exact Drawn0.refl _ | apply Drawn0.step)⟩
              · rw [if_neg c7] at H
                exact absurd H (by simp)
            · rw [if_neg c6] at H
              exact absurd H (by simp)
          · rw [if_neg c5] at H
            exact absurd H (by simp)
        · rw [if_neg c4] at H
          have c4b0 : decide (x13_1 < (l0.length : Int)) = false := decide_eq_false c4
          clear c4
          obtain rfl := Option.some.inj H
          go_wp2
          repeat (go_quiet (fail); try go_wp2)
          go_ret
          exact ⟨by first | rfl | (simp; done) | (simp [*]; done), by repeat (first | exact Drawn0.refl _ | apply Drawn0.step)⟩
  · rw [if_neg c3] at H
    have c3b0 : ((l0.length : Int) == (l1.length : Int)) = false := beq_eq_false_iff_ne.mpr c3
    have c3b1 : ((l0.length : Int) != (l1.length : Int)) = true := bne_iff_ne.mpr c3
    have c3b2 : (l0.length == l1.length) = false := by first | simpa using c3 | (simp at c3 ⊢; omega)
    obtain rfl := Option.some.inj H
    go_enter Tryd.func51, Tryd.ntmps51
    go_wp2
    repeat (go_quiet (fail); try go_wp2)
    go_ret
    exact ⟨by first | rfl | (simp; done) | (simp [*]; done), by repeat (first | exact Drawn0.refl _ | apply Drawn0.step)⟩

-- NOT PRINTED: function 50 (impl_PartIs_1)

/-! ### impl_PartIs: function 28, by hand -/
def impl_PartIs.step (k : Nat) (l : List Int) (s : Bool) (xs : List Int) : Option Bool := if s = true then some true else slices_Equal_int_int.f k xs l
def impl_PartIs.f (k : Nat) (l l1 : List Int) : Option Bool :=
  (impl_StickIn.f k l).bind fun t => if t = true then (if (l1.length : Int) = (l.length : Int) then impl_parts.f (impl_PartIs.step k l1) k l false else some false) else some false
theorem impl_PartIs.mono_s (a : List Int) (k : Nat) : ∀ s l, LeO (impl_PartIs.step k a s l) (impl_PartIs.step (k + 1) a s l) := fun _ _ => LeO.ite (LeO.refl _) (slices_Equal_int_int.mono _ _ _)
theorem impl_PartIs.mono : ∀ a0 a1 k, LeO (impl_PartIs.f k a0 a1) (impl_PartIs.f (k + 1) a0 a1) := by
  intro a0 a1 k
  unfold impl_PartIs.f
  exact LeO.bind (impl_StickIn.mono _ _) (fun _ => LeO.ite (LeO.ite (impl_parts.mono (impl_PartIs.mono_s a1 k) _ _ _) (LeO.refl _)) (LeO.refl _))
theorem impl_PartIs.heap_new {W : World} {o : Obj} {g : Nat} (h : g = W.heap.size) : (W.alloc o).heap[g]? = some o := by
  subst h
  exact heap_alloc_new W o
def impl_PartIs.R (A0 : Option Addr) (n0 c0 g gb : Nat) (w0 : World) (s : Bool) (w1 : World) : Prop := w1.heap[g]? = some (.cells #[.bool s] 4 (0, 0)) ∧ w1.heap[gb]? = some (.cells #[.slice A0 n0 c0] 22 (0, 0)) ∧ Below w0.heap.size w0 w1
theorem impl_PartIs.moves {A0 : Option Addr} {n0 c0 g gb B1 : Nat} {w0 w1 w2 : World} {s : Bool} (h : impl_PartIs.R A0 n0 c0 g gb w0 s w1) (hb : Below B1 w1 w2) (h1 : g < B1) (h2 : gb < B1) (h3 : w0.heap.size ≤ B1) : impl_PartIs.R A0 n0 c0 g gb w0 s w2 :=
  ⟨(hb.block _ h1).trans h.1, (hb.block _ h2).trans h.2.1, h.2.2.trans (Below.mono hb h3)⟩
set_option maxHeartbeats 4000000 in
set_option maxRecDepth 100000 in
theorem impl_PartIs.tell (k : Nat) (l0 : List Int) (A0 : Option Addr) (c0 g gb : Nat) (w0 : World) (B1 : Nat) (s s' : Bool) (xs : List Int) (A : Option Addr) (c : Nat) (w1 : World) (hr0 : ∀ w', Below w0.heap.size w0 w' → Kd.C (Kd.int .i64) w' A0 l0.length l0) (hc0 : l0.length ≤ c0) (hg0 : w0.heap.size ≤ g) (hg : g < B1) (hR : impl_PartIs.R A0 l0.length c0 g gb w0 s w1) (hz : B1 ≤ w1.heap.size)
    (hx : Kd.C (Kd.int .i64) w1 A xs.length xs) (hc : xs.length ≤ c) (h : impl_PartIs.step k l0 s xs = some s') :
    Calls Tryd.prog 50 (#[.slice A xs.length c] ++ #[.pointer (some ⟨g, 0, none⟩), .pointer (some ⟨gb, 0, none⟩)]) w1 fun e w2 => e = .returned (.tuple #[]) ∧ impl_PartIs.R A0 l0.length c0 g gb w0 s' w2 ∧ Below w0.heap.size w1 w2 ∧ ∀ k, B1 ≤ k → k < w1.heap.size → w2.heap[k]? = w1.heap[k]? := by
  show Calls Tryd.prog 50 #[.slice A xs.length c, .pointer (some ⟨g, 0, none⟩), .pointer (some ⟨gb, 0, none⟩)] w1 _
  obtain ⟨hR1, hR3, hR2⟩ := hR
  have HX := Aside0.mk hx
  have HC := Aside0.mk hc
  have HA := Aside0.mk (And.intro (hr0 w1 hR2) hc0)
  have HR1 := Aside0.mk hR1
  have HR2 := Aside0.mk hR2
  have HR3 := Aside0.mk hR3
  have hne : gb ≠ g := blk_ne hR3 hR1 (by decide)
  have HG := Aside0.mk (And.intro hg0 (And.intro hg (And.intro hz hne)))
  have c0_ : _ = some _ := blk_cell hR1 0
  have c1_ : _ = some _ := blk_cell hR3 0
  have f0_ := blk_frozen hR1 0
  clear hx hc hR1 hR2 hR3 hg0 hg hz hr0 hc0 hne
  unfold impl_PartIs.step at h
  by_cases hs : s = true
  · subst hs
    rw [if_pos rfl] at h
    obtain rfl := Option.some.inj h
    clear h
    go_enter Tryd.func50, Tryd.ntmps50
    go_wp2
    go_end0
    exact ⟨rfl, ⟨blk_put HR1.out 0 _ rfl, blk_far HR3.out HG.out.2.2.2 _, HR2.out.setCell HG.out.1 _⟩, (Below.refl _ _).setCell HG.out.1 _, fun k h1 h2 => Below.heap_setCell _ _ _ k (by have := HG.out.2.1; simp; omega)⟩
  · replace hs := Bool.eq_false_iff.mpr hs
    subst hs
    rw [if_neg (by decide)] at h
    have H := Aside0.mk h
    clear h
    go_enter Tryd.func50, Tryd.ntmps50
    go_wp2_with (first | (go_at_call 51; refine (slices_Equal_int_int.calls k _ _ xs _ _ l0 s' _ HX.out HC.out HA.out.1 HA.out.2 H.out).mono ?_; rintro e w3 ⟨rfl, ⟨⟨n, rfl⟩⟩⟩))
    go_end0
    exact ⟨rfl, ⟨blk_put (blk_drewN HR1.out _) 0 _ rfl, blk_far (blk_drewN HR3.out _) HG.out.2.2.2 _, (pw_below_drewN HR2.out _).setCell HG.out.1 _⟩, (pw_below_drewN (Below.refl _ _) _).setCell HG.out.1 _, fun k h1 h2 => Below.heap_setCell _ _ _ k (by have := HG.out.2.1; simp; omega)⟩
set_option maxHeartbeats 4000000 in
set_option maxRecDepth 100000 in
theorem impl_PartIs.calls (k : Nat) (A0 : Option Addr) (c0 : Nat) (l0 : List Int) (A1_ : Option Addr) (c1 : Nat) (l1 : List Int) (r : Bool) (w : World) (hr0 : Kd.C (Kd.int .i64) w A0 l0.length l0) (hc0 : l0.length ≤ c0) (hr1 : Kd.C (Kd.int .i64) w A1_ l1.length l1) (hc1 : l1.length ≤ c1) (h : impl_PartIs.f k l0 l1 = some r) :
    Calls Tryd.prog 28 #[.slice A0 l0.length c0, .slice A1_ l1.length c1] w fun e w' => e = .returned (.bool r) ∧ Below w.heap.size w w' := by
  have HR0 := Aside0.mk hr0
  have HC0 := Aside0.mk hc0
  have HR1 := Aside0.mk hr1
  have HC1 := Aside0.mk hc1
  clear hr0 hc0 hr1 hc1
  have HB := Aside0.mk (Below.refl w.heap.size w)
  obtain ⟨t, h1, h⟩ := Option.bind_eq_some_iff.mp h
  have A1 := Aside0.mk h1
  clear h1
  by_cases c3 : t = true
  · subst c3
    rw [if_pos rfl] at h
    by_cases c4 : (l1.length : Int) = (l0.length : Int)
    · rw [if_pos c4] at h
      have c4b : ((l1.length : Int) != (l0.length : Int)) = false := bne_eq_false_iff_eq.mpr c4
      clear c4
      have A3 := Aside0.mk h
      clear h
      have hmf : ∀ (fn : Fn) (first cap : Array Value) (w : World), (Instr.makeFunc fn first cap).run Tryd.prog w = .ok (.func fn first cap) w := fun _ _ _ _ => rfl
      have hb0 : ∀ m, Below w.heap.size w (((w.alloc (Obj.cells #[.slice A1_ l1.length c1] 22)).drewN m).alloc (Obj.cells #[.bool false] 4)) := fun m => below_alloc (pw_below_drewN (below_alloc (Below.refl w.heap.size w) _) m) _
      have HBM := Aside0.mk hb0
      clear hb0
      go_enter Tryd.func28, Tryd.ntmps28
      go_wp2_with (first
        | (go_at_call 24; refine (impl_StickIn.calls k _ _ l0 true _ ?s1 HC0.out A1.out).mono ?_; (case s1 => repeat (first | exact HR0.out | (with_reducible refine Kd.C_alloc ?_ _) | (with_reducible refine Kd.C_drewN ?_ _) | (with_reducible refine Kd.C_drew ?_))); rintro e w1 ⟨rfl, ⟨⟨n, rfl⟩⟩⟩)
        | (go_at_call 34; refine (impl_parts.calls (impl_PartIs.step k l1) 50 _ Tryd.func50 (by kernel_rfl) rfl #[.pointer (some ⟨w.heap.size + 1, 0, none⟩), .pointer (some ⟨w.heap.size, 0, none⟩)] w.heap.size (impl_PartIs.R A1_ l1.length c1 (w.heap.size + 1) w.heap.size w) k A0 c0 l0 false r _ ?hm ?ht ?hB ?hr HC0.out ?hs A3.out).mono ?_; (case hm => exact fun s w1 w2 h1 h2 => impl_PartIs.moves h1 h2 (by simp; try omega) (by simp; try omega) (by simp; try omega)); (case ht => exact fun s s' xs A c w1 h1 hz hx hc h2 => impl_PartIs.tell k l1 A1_ c1 _ _ w _ s s' xs A c w1 (fun w' hb => Kd.C_below HR1.out hb) HC1.out (by omega) (by simp; try omega) h1 hz hx hc h2); (case hB => simp; try omega); (case hr => exact fun w' hb => Kd.C_below HR0.out (Below.trans (HBM.out _) hb)); (case hs => exact ⟨impl_PartIs.heap_new (by simp), blk_alloc (blk_drewN (heap_alloc_new w _) _) _, HBM.out _⟩); rintro e w2 ⟨rfl, hs, hb⟩; have c2 := blk_cell hs.1 0; have HB2 := Aside0.mk (Below.trans (HBM.out _) hb); clear hb hs))
      go_ret
      exact ⟨rfl, HB2.out⟩
    · rw [if_neg c4] at h
      have c4b : ((l1.length : Int) != (l0.length : Int)) = true := bne_iff_ne.mpr c4
      clear c4
      obtain rfl := Option.some.inj h
      go_enter Tryd.func28, Tryd.ntmps28
      go_wp2_with (first | (go_at_call 24; refine (impl_StickIn.calls k _ _ l0 true _ ?s1 HC0.out A1.out).mono ?_; (case s1 => repeat (first | exact HR0.out | (with_reducible refine Kd.C_alloc ?_ _) | (with_reducible refine Kd.C_drewN ?_ _) | (with_reducible refine Kd.C_drew ?_))); rintro e w1 ⟨rfl, ⟨⟨n, rfl⟩⟩⟩))
      go_ret
      exact ⟨rfl, by repeat (first | (with_reducible first | exact HB.out | apply below_alloc | apply pw_below_drewN | apply below_drew1) | exact HB.out)⟩
  · replace c3 := Bool.eq_false_iff.mpr c3
    subst c3
    rw [if_neg (by decide)] at h
    obtain rfl := Option.some.inj h
    go_enter Tryd.func28, Tryd.ntmps28
    go_wp2_with (first | (go_at_call 24; refine (impl_StickIn.calls k _ _ l0 false _ ?s1 HC0.out A1.out).mono ?_; (case s1 => repeat (first | exact HR0.out | (with_reducible refine Kd.C_alloc ?_ _) | (with_reducible refine Kd.C_drewN ?_ _) | (with_reducible refine Kd.C_drew ?_))); rintro e w1 ⟨rfl, ⟨⟨n, rfl⟩⟩⟩))
    go_ret
    exact ⟨rfl, by repeat (first | (with_reducible first | exact HB.out | apply below_alloc | apply pw_below_drewN | apply below_drew1) | exact HB.out)⟩

/-! ### slices_Max_int_int: function 29, by hand -/
def slices_Max_int_int.l0 : Nat → List Int → Int → Int → Option Int
  | 0, _, _, _ => none
  | k + 1, l, m, i => if i < (l.length : Int) then (if 0 ≤ i then slices_Max_int_int.l0 k l (mx m (rd l i)) (wrap64 (i + 1)) else none) else some m
def slices_Max_int_int.f (k : Nat) (l : List Int) : Option Int := if 0 < l.length then slices_Max_int_int.l0 k l (rd l 0) 1 else none
theorem slices_Max_int_int.mono_l : ∀ k, (∀ y0 y1 y2, LeO (slices_Max_int_int.l0 k y0 y1 y2) (slices_Max_int_int.l0 (k + 1) y0 y1 y2))
  | 0 => fun _ _ _ r h => by simp [slices_Max_int_int.l0] at h
  | k + 1 => by
    have ih0 := slices_Max_int_int.mono_l k
    intro y0 y1 y2
    unfold slices_Max_int_int.l0
    exact LeO.ite (LeO.ite (ih0 _ _ _) (LeO.refl _)) (LeO.refl _)
theorem slices_Max_int_int.mono : ∀ a0 k, LeO (slices_Max_int_int.f k a0) (slices_Max_int_int.f (k + 1) a0) := fun a0 k => LeO.ite (slices_Max_int_int.mono_l k _ _ _) (LeO.refl _)
set_option maxHeartbeats 4000000 in
set_option maxRecDepth 100000 in
theorem slices_Max_int_int.calls (k : Nat) (A0 : Option Addr) (c0 : Nat) (l0 : List Int) (r : Int) (w : World) (hr0 : Kd.C (Kd.int .i64) w A0 l0.length l0) (hc0 : l0.length ≤ c0) (h : slices_Max_int_int.f k l0 = some r) :
    Calls Tryd.prog 29 #[.slice A0 l0.length c0] w fun e w' => e = .returned (.int .i64 r) ∧ Drawn0 w w' := by
  have HR0 := Aside0.mk hr0
  have HC0 := Aside0.mk hc0
  clear hc0
  unfold slices_Max_int_int.f at h
  by_cases c1 : 0 < l0.length
  · rw [if_pos c1] at h
    have c1b : decide ((l0.length : Int) < 1) = false := decide_eq_false (by omega)
    obtain ⟨ad, rfl, hx⟩ := Kd.at_int hr0 0 (by omega) (by omega)
    rw [show ((0 : Int)).toNat = 0 from rfl, Addr.add_zero'] at hx
    have p0 : (0 : Int) < (l0.length : Int) := by omega
    have HP := Aside0.mk c1
    clear hr0 c1
    have H' := Aside0.mk h
    clear h
    go_enter Tryd.func29, Tryd.ntmps29
    go_wp2
    go_loopg [3, 4] k (fun kq v3 v4 w' => ∃ (m i : Int), v3 = .int .i64 m ∧ v4 = .int .i64 i ∧ Aside0 (slices_Max_int_int.l0 kq l0 m i = some r) ∧ Aside0 (kq ≤ k) ∧ Drawn0 w w')
    case atStart => exact ⟨rd l0 0, 1, (by first | rfl | (simp; done) | (simp [*]; done)), (by first | rfl | (simp; done) | (simp [*]; done)), H', ⟨Nat.le_refl _⟩, by repeat (first | exact Drawn0.refl _ | apply Drawn0.step)⟩
    case round =>
      clear H' hx
      try clear c1b
      obtain ⟨m, i, rfl, rfl, HA, HK, ⟨nd, rfl⟩⟩ := hrel
      cases gk with
      | zero => exact absurd HA.out (by simp [slices_Max_int_int.l0])
      | succ k1 =>
        have H := HA.out
        clear HA
        simp only [slices_Max_int_int.l0] at H
        by_cases c4 : i < (l0.length : Int)
        · rw [if_pos c4] at H
          have c4b0 : decide (i < (l0.length : Int)) = true := decide_eq_true c4
          by_cases c5 : 0 ≤ i
          · rw [if_pos c5] at H
            have c5b0 : decide (0 ≤ i) = true := decide_eq_true c5
            obtain ⟨ad2, e2, hx2⟩ := Kd.at_int HR0.out i c5 c4
            cases e2
            obtain ⟨x, hxx⟩ : ∃ x, x = rd l0 i := ⟨_, rfl⟩
            rw [← hxx] at H hx2
            obtain ⟨jm, hjm⟩ : ∃ j_ : Int, (mx m x) = j_ := ⟨_, rfl⟩
            rw [hjm] at H
            have hjm_ : (if m < x then x else m) = jm := hjm
            have H' := Aside0.mk H
            clear H hxx
            go_wp2
            go_roundg k1
            case measure => omega
            case rel => exact ⟨jm, wrap64 (i + 1), (by first | rfl | (simp; done) | (simp only [← hjm] <;> (first | rfl | simp)) | (simp [*]; done)), (by first | rfl | (simp; done) | (simp [*]; done)), H', ⟨by have := HK.out; omega⟩, by repeat (first | exact Drawn0.refl _ | exact ⟨_, rfl⟩ | apply Drawn0.step)⟩
          · rw [if_neg c5] at H
            exact absurd H (by simp)
        · rw [if_neg c4] at H
          have c4b0 : decide (i < (l0.length : Int)) = false := decide_eq_false c4
          obtain rfl := Option.some.inj H
          go_wp2
          go_ret
          exact ⟨by first | rfl | (simp; done), by repeat (first | exact Drawn0.refl _ | exact ⟨_, rfl⟩ | apply Drawn0.step)⟩
  · rw [if_neg c1] at h
    exact absurd h (by simp)

end Go.Proofs.YtlgcjmgfhbdpgaaDoor.PFnThreesIs
