/- Written by a program of this claim out of the translation: plain Lean functions and their contracts; what is proved: each Go function of this text comes to what its Lean function says. -/
import Derived.Test.YtcmpkabpmmmhoaaGreatDoorPFnExecuteEndsx0
namespace Go.Proofs.YtcmpkabpmmmhoaaGreatDoor.PFnExecuteEnds
open Go.RowKit Go.Proofs.YtcmpkabpmmmhoaaGreatDoorW.PrintWords Go.Proofs.YtcmpkabpmmmhoaaGreatDoorW.PrintLast Go.Proofs.YtcmpkabpmmmhoaaGreatDoorW.PrintMore
attribute [local go_sem] max2_int min2_int max_two min_two max_three min_three max_four min_four   -- for this text's walks alone
set_option linter.unusedVariables false
set_option linter.unusedSimpArgs false

/-! ### strconv_Itoa: function 22, from the shelf: the library's table is the world's -/
def TabW (w : World) : Prop := Lib.TabIs Tryz.prog w "internal/strconv.uint64pow10" .u64 Lib.pow10Tab
theorem TabW.below {w w' : World} (h : TabW w) (hb : Below w.heap.size w w') : TabW w' := by
  unfold TabW Lib.TabIs World.var? at h ⊢
  cases hg : Program.globalNamed Tryz.prog "internal/strconv.uint64pow10" with
  | none => rw [hg] at h; exact absurd h (by simp)
  | some g =>
    rw [hg] at h
    simp only [Option.bind_some] at h ⊢
    have hlt : g < w.heap.size := by
      rcases Nat.lt_or_ge g w.heap.size with h1 | h1
      · exact h1
      · rw [Array.getElem?_eq_none h1] at h
        exact absurd h (by simp)
    rw [hb.block g hlt]
    exact h
def strconv_Itoa.f (a0 : Int) : Option ByteArray := if -1000 ≤ a0 ∧ a0 ≤ 1000 then some ⟨(Lib.itoa a0).toArray⟩ else none
theorem strconv_Itoa.calls (a0 : Int) (r : ByteArray) (w : World) (h : strconv_Itoa.f a0 = some r) (htab_ : TabW w) :
    Calls Tryz.prog 22 #[.int .i64 a0] w fun e w' => e = .returned (.string r) ∧ Below w.heap.size w w' := by
  unfold strconv_Itoa.f at h
  split at h
  · next hc =>
    injection h with h
    subst h
    refine (Go.Proofs.YtcmpkabpmmmhoaaGreatDoor.Shelf.Tryz.strconv_Itoa a0 (by omega) (by omega) w htab_).mono ?_
    rintro e w' ⟨rfl, k, os, rfl⟩
    exact ⟨rfl, ⟨rfl, rfl, rfl, by simp, fun q hq => Go.Sort.heap_grow_old _ _ (by simpa using hq)⟩⟩
  · simp at h

/-! ### strings_Split: function 28, by hand over the shelf: a text cut at a byte -/
def strings_Split.f (s sep : ByteArray) : Option (List ByteArray) := if sep.size = 1 ∧ s.size ≤ 4194304 then some (Lib.splitB sep 0 (Lib.countB s sep) s) else none
theorem strings_Split.row {w : World} {g base : Nat} (xs : List ByteArray) (hl : xs.length ≤ 8388608) (h : w.heap[g]? = some (.cells (xs.map Value.string).toArray 9 (0, 0))) (hb : base ≤ g) : Kd.R Kd.string 9 w base (fun _ => True) (.slice (some ⟨g, 0, none⟩) xs.length xs.length) xs :=
  Kd.R_of_own (xs := xs) ⟨by simp [encs], Or.inr ⟨g, xs.length, (xs.map Value.string).toArray, rfl, hb, h, Nat.le_refl _, by unfold maxLen; omega, by simp, by
    rw [Nat.mul_one]
    show List.take xs.length (xs.map Value.string) = xs.map Value.string
    exact List.take_of_length_le (by simp)⟩⟩ (fun _ _ => trivial)
set_option maxHeartbeats 4000000 in
set_option maxRecDepth 100000 in
theorem strings_Split.calls (a0 : ByteArray) (a1 : ByteArray) (r : List ByteArray) (w : World) (h : strings_Split.f a0 a1 = some r) :
    Calls Tryz.prog 28 #[.string a0, .string a1] w fun e w' => ∃ v0_ : Value, e = .returned (v0_) ∧ Kd.R Kd.string 9 w' w.heap.size (fun _ => True) v0_ r ∧ Below w.heap.size w w' := by
  unfold strings_Split.f at h
  split at h
  · next hc =>
    obtain ⟨c, rfl⟩ := Lib.one_byte a1 hc.1
    injection h with h
    have hsz := hc.2
    have h1 : 1 ≤ (⟨#[c]⟩ : ByteArray).size := Nat.le_refl 1
    have hlen := Lib.splitB_all (⟨#[c]⟩ : ByteArray) h1 0 _ a0 rfl
    have hle := Lib.countB_le (⟨#[c]⟩ : ByteArray) h1 a0.size a0 (Nat.le_refl _)
    have hC := (Any.strings_Count_one Go.Proofs.YtcmpkabpmmmhoaaGreatDoor.Shelf.Tryz.lays138 a0 c w).mono (R' := fun e w' => e = .returned (.int .i64 (Lib.countB a0 ⟨#[c]⟩)) ∧ w' = w) fun e w' ⟨he, hw⟩ => ⟨by
      rw [he]
      show _ = Ending.returned (Value.int .i64 ((Lib.count a0.data.toList [c] : Nat) : Int))
      rw [Lib.count_one]
      rfl, hw⟩
    have hI : ∀ (x : ByteArray) (cs : Array Value), x.size ≤ a0.size → Calls Tryz.prog 118 #[.string x, .string ⟨#[c]⟩] (w.alloc (.cells cs 9)) fun e w' => e = .returned (.int .i64 (Lib.indexB x ⟨#[c]⟩)) ∧ w' = w.alloc (.cells cs 9) := fun x cs _ =>
      (Any.strings_Index_one Go.Proofs.YtcmpkabpmmmhoaaGreatDoor.Shelf.Tryz.lays143 x c _).mono fun e w' ⟨he, hw⟩ => ⟨by
        rw [he]
        show _ = Ending.returned (Value.int .i64 (Lib.index x.data.toList [c]))
        rw [Lib.index_one], hw⟩
    have core := Any.strings_genSplit_core Go.Proofs.YtcmpkabpmmmhoaaGreatDoor.Shelf.Tryz.lays221 (by kernel_rfl) a0 ⟨#[c]⟩ 0 (-1) (Lib.countB a0 ⟨#[c]⟩ + 1) w (by omega) h1 (Nat.zero_le _) hI hC (by decide) (by decide) (by rw [if_pos (by decide)]; omega)
    rw [Nat.add_sub_cancel, hlen] at core
    have e2 : Lib.cellsOf (Lib.splitB ⟨#[c]⟩ 0 (Lib.countB a0 ⟨#[c]⟩) a0) (Lib.countB a0 ⟨#[c]⟩ + 1) = ((Lib.splitB ⟨#[c]⟩ 0 (Lib.countB a0 ⟨#[c]⟩) a0).map Value.string).toArray := by rw [← hlen]; exact Lib.cellsOf_full _
    rw [e2, h] at core
    rw [h] at hlen
    have hn : Lib.countB a0 ⟨#[c]⟩ + 1 = r.length := hlen.symm
    rw [hn] at core
    have HC := Aside0.mk core
    have HL := Aside0.mk (show r.length ≤ 8388608 by omega)
    clear core hC hI e2 hn hlen hle hsz h1 h hc
    go_enter Tryz.func28, Tryz.ntmps28
    go_wp2_with (first | (go_at_call 55; refine HC.out.mono ?_; rintro e w1 ⟨rfl, hw⟩; subst hw))
    go_ret
    exact ⟨_, rfl, strings_Split.row r HL.out (heap_alloc_new w _) (Nat.le_refl _), below_alloc (Below.refl _ _) _⟩
  · simp at h

/-! ### strings_Cut: function 29, by hand: a text cut at its first blank -/
def strings_Cut.f (s : ByteArray) : ByteArray × ByteArray × Bool := if 0 ≤ Lib.indexByte s.data.toList 32 then (s.extract 0 (Lib.indexByte s.data.toList 32).toNat, s.extract ((Lib.indexByte s.data.toList 32).toNat + 1) s.size, true) else (s, ⟨#[]⟩, false)
theorem strings_Cut.index_in (s : ByteArray) (h : 0 ≤ Lib.indexByte s.data.toList 32) : Lib.indexByte s.data.toList 32 < (s.size : Int) := by
  have h1 := Lib.index_room s.data.toList [32] (by rw [Lib.index_one]; exact h)
  rw [Lib.index_one] at h1
  have h2 : s.data.toList.length = s.size := Array.length_toList
  rw [h2] at h1
  simp only [List.length_cons, List.length_nil] at h1
  omega
set_option maxHeartbeats 1000000 in
set_option maxRecDepth 100000 in
theorem strings_Cut.inner (s : ByteArray) (w : World) (hs : s.size ≤ 4194304) :
    Calls Tryz.prog 56 #[.string s, .string ⟨#[32]⟩] w fun e w' => e = .returned (.tuple #[.string (strings_Cut.f s).1, .string (strings_Cut.f s).2.1, .bool (strings_Cut.f s).2.2]) ∧ Drawn0 w w' := by
  obtain ⟨i, hi⟩ : ∃ i, Lib.indexByte s.data.toList 32 = i := ⟨_, rfl⟩
  have hin := strings_Cut.index_in s
  unfold strings_Cut.f
  rw [hi] at hin ⊢
  have HI := Aside0.mk hi
  clear hi
  by_cases h0 : 0 ≤ i
  · rw [if_pos h0]
    have h1 := hin h0
    have hw : IntKind.i64.wrap (i + 1) = i + 1 := (i64_w _).trans (by unfold wrap64; omega)
    have c3 : 0 ≤ i + 1 := by omega
    have c4 : i + 1 ≤ (s.size : Int) := by omega
    have c5 : i ≤ (s.size : Int) := by omega
    have e1 : (i + 1).toNat = i.toNat + 1 := by omega
    clear hin
    go_enter Tryz.func56, Tryz.ntmps56
    go_wp2_with (go_at_call 119; refine (Go.Proofs.YtcmpkabpmmmhoaaGreatDoor.Shelf.Tryz.stringslite_Index_one s 32 _).mono ?_; rintro e w' ⟨rfl, rfl⟩; rw [HI.out])
    go_quiet (fail)
    go_wp2
    go_ret3
    exact ⟨rfl, ⟨_, rfl⟩⟩
  · rw [if_neg h0]
    clear hin
    go_enter Tryz.func56, Tryz.ntmps56
    go_wp2_with (go_at_call 119; refine (Go.Proofs.YtcmpkabpmmmhoaaGreatDoor.Shelf.Tryz.stringslite_Index_one s 32 _).mono ?_; rintro e w' ⟨rfl, rfl⟩; rw [HI.out])
    go_ret3
    exact ⟨rfl, Drawn0.refl _⟩
set_option maxRecDepth 100000 in
theorem strings_Cut.calls (s : ByteArray) (w : World) (hs : s.size ≤ 4194304) :
    Calls Tryz.prog 29 #[.string s, .string ⟨#[32]⟩] w fun e w' => e = .returned (.tuple #[.string (strings_Cut.f s).1, .string (strings_Cut.f s).2.1, .bool (strings_Cut.f s).2.2]) ∧ Drawn0 w w' := by
  obtain ⟨r, hr⟩ : ∃ r, strings_Cut.f s = r := ⟨_, rfl⟩
  have h := strings_Cut.inner s w hs
  rw [hr] at h ⊢
  obtain ⟨r1, r2, r3⟩ := r
  have H := Aside0.mk h
  clear h hr
  go_enter Tryz.func29, Tryz.ntmps29
  go_wp2_with (go_at_call 56; refine H.out.mono ?_; rintro e w' ⟨rfl, ⟨⟨n, rfl⟩⟩⟩)
  go_ret3
  exact ⟨rfl, ⟨_, rfl⟩⟩
/-! #### the ruler's own cell, and the builder beside it -/
/-- The world has moved on: but for the ruler's cell nothing that stood has changed; the cell holds a list of the call's own. -/
def Ruled (w w' : World) (B g : Nat) (l : List Int) : Prop := w.grownBy w' (some g) ∧ ∃ A c, w'.heap[g]? = some (.cells #[.slice A l.length c] 23 (0, 0)) ∧ Kd.R (Kd.int .i64) 3 w' B (fun _ => True) (.slice A l.length c) l
theorem Ruled.same {w w' : World} {B g : Nat} {A : Option Addr} {c : Nat} {l : List Int} (hg : w.heap[g]? = some (.cells #[.slice A l.length c] 23 (0, 0))) (hr : Kd.R (Kd.int .i64) 3 w B (fun _ => True) (.slice A l.length c) l) (hb : Below w.heap.size w w') : Ruled w w' B g l :=
  ⟨⟨hb.os, hb.tape, hb.output, hb.size, fun k hk _ => hb.block k hk⟩, A, c, blk_below hg hb, Kd.R_below hr hb⟩
theorem builder_grown {T e t B b g : Nat} {bs : List Value} {cs : Array Value} {w w' : World} (h : Lib.IsBuilderF T e B b bs w) (hg : w.grownBy w' (some g)) (hc : w.heap[g]? = some (.cells cs t (0, 0))) (h1 : t ≠ T) (h2 : t ≠ e) : Lib.IsBuilderF T e B b bs w' := by
  have one : ∀ p, Lib.BuilderAtF T e B b p bs w → Lib.BuilderAtF T e B b p bs w' := by
    rintro p ⟨hB, v, hb, hown, hne⟩
    have hbg : b ≠ g := (blk_ne hc hb h1).symm
    exact ⟨hB, v, blk_grown hb hg (fun e => hbg (Option.some.inj e)), hown.kept hg (.inr (Lib.ownBlock_neF hown hc h2)), hne⟩
  exact h.elim (fun x => .inl (one _ x)) (fun x => .inr (one _ x))
theorem builder_below {T e B b : Nat} {bs : List Value} {w w' : World} (h : Lib.IsBuilderF T e B b bs w) (hb : Below w.heap.size w w') : Lib.IsBuilderF T e B b bs w' := by
  have hg : w.grownBy w' none := ⟨hb.os, hb.tape, hb.output, hb.size, fun k hk _ => hb.block k hk⟩
  have one : ∀ p, Lib.BuilderAtF T e B b p bs w → Lib.BuilderAtF T e B b p bs w' := by
    rintro p ⟨hB, v, hbb, hown, hne⟩
    refine ⟨hB, v, blk_below hbb hb, hown.kept hg ?_, hne⟩
    cases hv : v.ownBlock with
    | none => exact .inl rfl
    | some q => exact .inr (by simp)
  exact h.elim (fun x => .inl (one _ x)) (fun x => .inr (one _ x))
theorem builder_cells {T e B b : Nat} {bs : List Value} {w : World} (h : Lib.IsBuilderF T e B b bs w) : ∃ cs, w.heap[b]? = some (.cells cs T (0, 0)) := by
  rcases h with ⟨_, v, hb, _⟩ | ⟨_, v, hb, _⟩ <;> exact ⟨_, hb⟩
theorem R_others {α : Type} {d : Kd α} {e u T base b : Nat} {ok : Nat → Prop} {v : Value} {xs : List α} {cs : Array Value} {w w' : World} (h : d.R e w base ok v xs) (hk : Lib.OthersKept u (some b) w w') (hb : w.heap[b]? = some (.cells cs T (0, 0))) (hq : ∀ q, q ∈ e :: d.E → q ≠ u ∧ q ≠ T) : d.R e w' base ok v xs :=
  Kd.R_mono (Kd.R_step (Kd.R_bound h) (fun k hk' _ => by
    obtain ⟨_, _, _, q, hq', cells, hc⟩ := hk'
    rw [hc]
    refine hk k _ hc (fun he => ?_) (fun c fz he => ?_)
    · obtain rfl := Option.some.inj he
      rw [hc] at hb
      injection hb with hb
      injection hb with _ hb
      exact (hq q hq').2 hb
    · injection he with _ he
      exact (hq q hq').1 he)) (fun _ hk => hk.1)
theorem blk_others {u T t b g : Nat} {cs cs' : Array Value} {w w' : World} (hc : w.heap[g]? = some (.cells cs t (0, 0))) (hk : Lib.OthersKept u (some b) w w') (hb : w.heap[b]? = some (.cells cs' T (0, 0))) (h1 : t ≠ u) (h2 : t ≠ T) : w'.heap[g]? = some (.cells cs t (0, 0)) :=
  hk g _ hc (fun he => (blk_ne hc hb h2) (Option.some.inj he)) (fun c fz he => by
    injection he with _ he
    exact h1 he)
theorem R_ruled {α : Type} {d : Kd α} {e t base g : Nat} {ok : Nat → Prop} {v : Value} {xs : List α} {cs : Array Value} {w w' : World} (h : d.R e w base ok v xs) (hg : w.grownBy w' (some g)) (hc : w.heap[g]? = some (.cells cs t (0, 0))) (ht : ∀ q, q ∈ e :: d.E → q ≠ t) : d.R e w' base ok v xs :=
  Kd.R_mono (Kd.R_grown (Kd.R_types h hc ht) hg (fun k hk he => hk.2 (Option.some.inj he))) (fun _ hk => hk.1)
theorem below_ruled {w0 w w' : World} {g : Nat} (h : Below w0.heap.size w0 w) (hg : w.grownBy w' (some g)) (hB : w0.heap.size ≤ g) : Below w0.heap.size w0 w' :=
  pw_below_grown h (some g) h.size hg (fun k hk => by obtain rfl := Option.some.inj hk; exact hB)

-- NOT PRINTED: function 30 (strings_Builder_WriteString)

/-! ### impl_isRuler: function 35 -/
def impl_isRuler.l0 : Nat → List Int → List Int → Int → Int → Option (Bool)
  | 0, _, _, _, _ => none
  | k + 1, x0, x5, x6, x7 => if x7 < x6 then (if 0 ≤ x7 then (if x7 < (x5.length : Int) then (if (rd x5 x7) < 1 then (some false) else (if (rd x5 x7) > 60 then (some false) else (impl_isRuler.l0 k x0 x5 x6 (wrap64 (x7 + 1))))) else (none)) else (none)) else (if (x0.length : Int) ≥ 1 then (some (decide ((x0.length : Int) ≤ 9))) else (some false))
def impl_isRuler.f (k : Nat) (l0 : List Int) : Option (Bool) := impl_isRuler.l0 k l0 l0 (l0.length : Int) 0
theorem impl_isRuler.mono_l : ∀ k, (∀ y0 y1 y2 y3, LeO (impl_isRuler.l0 k y0 y1 y2 y3) (impl_isRuler.l0 (k + 1) y0 y1 y2 y3))
  | 0 => fun _ _ _ _ r h => by simp [impl_isRuler.l0] at h
  | k + 1 => by
    have ih0 := impl_isRuler.mono_l k
    · intro y0 y1 y2 y3
      unfold impl_isRuler.l0
      repeat' first
      | (with_reducible exact ih0 _ _ _ _)
      | (with_reducible exact LeO.refl _)
      | (with_reducible exact LeO.none _)
      | (with_reducible refine LeO.ite ?_ ?_)
      | (with_reducible refine LeO.bind ?_ (fun _ => ?_))
      | exact ih0 _ _ _ _
      | exact LeO.none _
      | refine LeO.ite ?_ ?_
      | refine LeO.bind ?_ (fun _ => ?_)
theorem impl_isRuler.mono : ∀ a0 k, LeO (impl_isRuler.f k a0) (impl_isRuler.f (k + 1) a0) := by
  intro a0 k
  have ih0 := impl_isRuler.mono_l k
  unfold impl_isRuler.f
  repeat' first
      | (with_reducible exact ih0 _ _ _ _)
      | (with_reducible exact LeO.refl _)
      | (with_reducible exact LeO.none _)
      | (with_reducible refine LeO.ite ?_ ?_)
      | (with_reducible refine LeO.bind ?_ (fun _ => ?_))
      | exact ih0 _ _ _ _
      | exact LeO.none _
      | refine LeO.ite ?_ ?_
      | refine LeO.bind ?_ (fun _ => ?_)
set_option maxHeartbeats 8000000 in
set_option maxRecDepth 100000 in
theorem impl_isRuler.calls (k : Nat) (A0 : Option Addr) (c0 : Nat) (l0 : List Int) (r : Bool) (w : World) (hr0 : Kd.C (Kd.int .i64) w A0 l0.length l0) (hc0 : l0.length ≤ c0) (h : impl_isRuler.f k l0 = some r) :
    Calls Tryz.prog 35 #[.slice A0 l0.length c0] w fun e w' => e = .returned (.bool r) ∧ Drawn0 w w' := by
  have HR0 := Aside0.mk hr0
  have HC0 := Aside0.mk hc0
  clear hr0 hc0
  have H : (impl_isRuler.l0 k l0 l0 (l0.length : Int) 0) = some r := h
  clear h
  have H' := Aside0.mk H
  clear H
  go_enter Tryz.func35, Tryz.ntmps35
  go_wp2
  go_loopg [7] k (fun kq v7 w' => ∃ (x7_1 : Int), v7 = .int .i64 x7_1 ∧ Aside0 (impl_isRuler.l0 kq l0 l0 (l0.length : Int) x7_1 = some r) ∧ Aside0 (kq ≤ k) ∧ Drawn0 w w')
  case atStart => exact ⟨(0), (by first | rfl | (simp; done) | (simp [*]; done)), H', ⟨Nat.le_refl _⟩, by repeat (first | exact Drawn0.refl _ | apply Drawn0.step)⟩
  case round =>
    clear H'
    obtain ⟨x7_1, rfl, HA, HK1, ⟨m1, rfl⟩⟩ := hrel
    cases gk with
    | zero => exact absurd HA.out (by simp [impl_isRuler.l0])
    | succ k1 =>
      have H := HA.out
      clear HA
      simp only [impl_isRuler.l0] at H
      by_cases c2 : x7_1 < (l0.length : Int)
      · rw [if_pos c2] at H
        have c2b0 : decide (x7_1 < (l0.length : Int)) = true := decide_eq_true c2
        clear c2
        by_cases c3 : 0 ≤ x7_1
        · rw [if_pos c3] at H
          have c3b0 : decide (0 ≤ x7_1) = true := decide_eq_true c3
          clear c3
          by_cases c4 : x7_1 < (l0.length : Int)
          · rw [if_pos c4] at H
            have c4b0 : decide (x7_1 < (l0.length : Int)) = true := decide_eq_true c4
            clear c4
            by_cases c5 : (rd l0 x7_1) < 1
            · rw [if_pos c5] at H
              have c5b0 : decide ((rd l0 x7_1) < 1) = true := decide_eq_true c5
              clear c5
              obtain rfl := Option.some.inj H
              have p101 : 0 ≤ (x7_1 : Int) := of_decide_eq_true (by first | (with_reducible assumption) | assumption)
              have q101 : x7_1 < (l0.length : Int) := of_decide_eq_true (by first | (with_reducible assumption) | assumption)
              obtain ⟨ad101, e101, hx101_0⟩ := Kd.at_int HR0.out x7_1 p101 q101
              cases e101
              replace p101 := eq_true p101
              replace q101 := eq_true q101
              go_wp2
              go_ret
              exact ⟨by first | rfl | (simp; done) | (simp [*]; done), by repeat (first | exact Drawn0.refl _ | apply Drawn0.step)⟩
            · rw [if_neg c5] at H
              have c5b0 : decide ((rd l0 x7_1) < 1) = false := decide_eq_false c5
              clear c5
              by_cases c6 : (rd l0 x7_1) > 60
              · rw [if_pos c6] at H
                have c6b0 : decide (60 < (rd l0 x7_1)) = true := decide_eq_true c6
                clear c6
                obtain rfl := Option.some.inj H
                have p101 : 0 ≤ (x7_1 : Int) := of_decide_eq_true (by first | (with_reducible assumption) | assumption)
                have q101 : x7_1 < (l0.length : Int) := of_decide_eq_true (by first | (with_reducible assumption) | assumption)
                obtain ⟨ad101, e101, hx101_0⟩ := Kd.at_int HR0.out x7_1 p101 q101
                cases e101
                replace p101 := eq_true p101
                replace q101 := eq_true q101
                go_wp2
                go_ret
                exact ⟨by first | rfl | (simp; done) | (simp [*]; done), by repeat (first | exact Drawn0.refl _ | apply Drawn0.step)⟩
              · rw [if_neg c6] at H
                have c6b0 : decide (60 < (rd l0 x7_1)) = false := decide_eq_false c6
                clear c6
                have H' := Aside0.mk H
                clear H
                have p101 : 0 ≤ (x7_1 : Int) := of_decide_eq_true (by first | (with_reducible assumption) | assumption)
                have q101 : x7_1 < (l0.length : Int) := of_decide_eq_true (by first | (with_reducible assumption) | assumption)
                obtain ⟨ad101, e101, hx101_0⟩ := Kd.at_int HR0.out x7_1 p101 q101
                cases e101
                replace p101 := eq_true p101
                replace q101 := eq_true q101
                go_wp2
                go_roundg k1
                case measure => have := HK1.out; omega
                case rel => exact ⟨(wrap64 (x7_1 + 1)), (by first | rfl | (simp; done) | (simp [*]; done)), H', ⟨by have := HK1.out; omega⟩, by repeat (first | exact Drawn0.refl _ | apply Drawn0.step)⟩
          · rw [if_neg c4] at H
            exact absurd H (by simp)
        · rw [if_neg c3] at H
          exact absurd H (by simp)
      · rw [if_neg c2] at H
        have c2b0 : decide (x7_1 < (l0.length : Int)) = false := decide_eq_false c2
        clear c2
        by_cases c7 : (l0.length : Int) ≥ 1
        · rw [if_pos c7] at H
          have c7b0 : decide (1 ≤ (l0.length : Int)) = true := decide_eq_true c7
          have c7b1 : decide (1 ≤ l0.length) = true := decide_eq_true (by omega)
          clear c7
          obtain rfl := Option.some.inj H
          go_wp2
          go_ret
          exact ⟨by first | rfl | (simp; done) | (simp [*]; done), by repeat (first | exact Drawn0.refl _ | apply Drawn0.step)⟩
        · rw [if_neg c7] at H
          have c7b0 : decide (1 ≤ (l0.length : Int)) = false := decide_eq_false c7
          have c7b1 : decide (1 ≤ l0.length) = false := decide_eq_false (by omega)
          clear c7
          obtain rfl := Option.some.inj H
          go_wp2
          go_ret
          exact ⟨by first | rfl | (simp; done) | (simp [*]; done), by repeat (first | exact Drawn0.refl _ | apply Drawn0.step)⟩

/-! ### impl_readNumbers: function 66 -/
mutual
def impl_readNumbers.l0 : Nat → List Int → List ByteArray → Int → Int → Option (List Int × Bool)
  | 0, _, _, _, _ => none
  | k + 1, x4, x11, x12, x13 => if x13 < x12 then (if 0 ≤ x13 then (if x13 < (x11.length : Int) then (if ((rdOf ByteArray.empty x11 x13).size : Int) < 1 then (impl_readNumbers.j1 k x4 (rdOf ByteArray.empty x11 x13) x11 x12 x13 true) else (impl_readNumbers.j1 k x4 (rdOf ByteArray.empty x11 x13) x11 x12 x13 (decide (((rdOf ByteArray.empty x11 x13).size : Int) > 3)))) else (none)) else (none)) else (some (x4, true))
def impl_readNumbers.j1 : Nat → List Int → ByteArray → List ByteArray → Int → Int → Bool → Option (List Int × Bool)
  | 0, _, _, _, _, _, _ => none
  | k + 1, x4, x6, x11, x12, x13, x24 => if x24 = true then (some (([] : List Int), false)) else (impl_readNumbers.l1 k x4 x6 0 x11 x12 x13 (x6.size : Int) 0)
def impl_readNumbers.l1 : Nat → List Int → ByteArray → Int → List ByteArray → Int → Int → Int → Int → Option (List Int × Bool)
  | 0, _, _, _, _, _, _, _, _ => none
  | k + 1, x4, x6, x7, x11, x12, x13, x26, x27 => if x27 < x26 then (if 0 ≤ x27 then (if x27 < (x6.size : Int) then (if (bt x6 x27) < 48 then (some (([] : List Int), false)) else (if (bt x6 x27) > 57 then (some (([] : List Int), false)) else (impl_readNumbers.l1 k x4 x6 (wrap64 ((wrap64 (x7 * 10)) + (((bt x6 x27) - 48) % 256))) x11 x12 x13 x26 (wrap64 (x27 + 1))))) else (none)) else (none)) else (if x4.length < 17592186044416 then (impl_readNumbers.l0 k (x4 ++ [x7]) x11 x12 (wrap64 (x13 + 1))) else (none))
end
def impl_readNumbers.f (k : Nat) (a0 : ByteArray) : Option (List Int × Bool) := (strings_Split.f a0 (⟨#[32]⟩ : ByteArray)).bind fun t105 => (impl_readNumbers.l0 k (([] : List Int)) t105 (t105.length : Int) 0)
theorem impl_readNumbers.mono_l : ∀ k, (∀ y0 y1 y2 y3, LeO (impl_readNumbers.l0 k y0 y1 y2 y3) (impl_readNumbers.l0 (k + 1) y0 y1 y2 y3)) ∧ (∀ y0 y1 y2 y3 y4 y5, LeO (impl_readNumbers.j1 k y0 y1 y2 y3 y4 y5) (impl_readNumbers.j1 (k + 1) y0 y1 y2 y3 y4 y5)) ∧ (∀ y0 y1 y2 y3 y4 y5 y6 y7, LeO (impl_readNumbers.l1 k y0 y1 y2 y3 y4 y5 y6 y7) (impl_readNumbers.l1 (k + 1) y0 y1 y2 y3 y4 y5 y6 y7))
  | 0 => ⟨fun _ _ _ _ r h => by simp [impl_readNumbers.l0] at h, fun _ _ _ _ _ _ r h => by simp [impl_readNumbers.j1] at h, fun _ _ _ _ _ _ _ _ r h => by simp [impl_readNumbers.l1] at h⟩
  | k + 1 => by
    obtain ⟨ih0, ih1, ih2⟩ := impl_readNumbers.mono_l k
    refine ⟨?_, ?_, ?_⟩
    · intro y0 y1 y2 y3
      unfold impl_readNumbers.l0
      repeat' first
      | (with_reducible exact ih0 _ _ _ _)
      | (with_reducible exact ih1 _ _ _ _ _ _)
      | (with_reducible exact ih2 _ _ _ _ _ _ _ _)
      | (with_reducible exact LeO.refl _)
      | (with_reducible exact LeO.none _)
      | (with_reducible refine LeO.ite ?_ ?_)
      | (with_reducible refine LeO.bind ?_ (fun _ => ?_))
      | exact ih0 _ _ _ _
      | exact ih1 _ _ _ _ _ _
      | exact ih2 _ _ _ _ _ _ _ _
      | exact LeO.none _
      | refine LeO.ite ?_ ?_
      | refine LeO.bind ?_ (fun _ => ?_)
    · intro y0 y1 y2 y3 y4 y5
      unfold impl_readNumbers.j1
      repeat' first
      | (with_reducible exact ih0 _ _ _ _)
      | (with_reducible exact ih1 _ _ _ _ _ _)
      | (with_reducible exact ih2 _ _ _ _ _ _ _ _)
      | (with_reducible exact LeO.refl _)
      | (with_reducible exact LeO.none _)
      | (with_reducible refine LeO.ite ?_ ?_)
      | (with_reducible refine LeO.bind ?_ (fun _ => ?_))
      | exact ih0 _ _ _ _
      | exact ih1 _ _ _ _ _ _
      | exact ih2 _ _ _ _ _ _ _ _
      | exact LeO.none _
      | refine LeO.ite ?_ ?_
      | refine LeO.bind ?_ (fun _ => ?_)
    · intro y0 y1 y2 y3 y4 y5 y6 y7
      unfold impl_readNumbers.l1
      repeat' first
      | (with_reducible exact ih0 _ _ _ _)
      | (with_reducible exact ih1 _ _ _ _ _ _)
      | (with_reducible exact ih2 _ _ _ _ _ _ _ _)
      | (with_reducible exact LeO.refl _)
      | (with_reducible exact LeO.none _)
      | (with_reducible refine LeO.ite ?_ ?_)
      | (with_reducible refine LeO.bind ?_ (fun _ => ?_))
      | exact ih0 _ _ _ _
      | exact ih1 _ _ _ _ _ _
      | exact ih2 _ _ _ _ _ _ _ _
      | exact LeO.none _
      | refine LeO.ite ?_ ?_
      | refine LeO.bind ?_ (fun _ => ?_)
theorem impl_readNumbers.mono : ∀ a0 k, LeO (impl_readNumbers.f k a0) (impl_readNumbers.f (k + 1) a0) := by
  intro a0 k
  obtain ⟨ih0, ih1, ih2⟩ := impl_readNumbers.mono_l k
  unfold impl_readNumbers.f
  repeat' first
      | (with_reducible exact ih0 _ _ _ _)
      | (with_reducible exact ih1 _ _ _ _ _ _)
      | (with_reducible exact ih2 _ _ _ _ _ _ _ _)
      | (with_reducible exact LeO.refl _)
      | (with_reducible exact LeO.none _)
      | (with_reducible refine LeO.ite ?_ ?_)
      | (with_reducible refine LeO.bind ?_ (fun _ => ?_))
      | exact ih0 _ _ _ _
      | exact ih1 _ _ _ _ _ _
      | exact ih2 _ _ _ _ _ _ _ _
      | exact LeO.none _
      | refine LeO.ite ?_ ?_
      | refine LeO.bind ?_ (fun _ => ?_)
set_option maxHeartbeats 8000000 in
set_option maxRecDepth 100000 in
theorem impl_readNumbers.calls (k : Nat) (a0 : ByteArray) (r1 : List Int) (r2 : Bool) (w : World) (h : impl_readNumbers.f k a0 = some (r1, r2)) :
    Calls Tryz.prog 66 #[.string a0] w fun e w' => ∃ v0_ : Value, e = .returned (.tuple #[v0_, .bool r2]) ∧ Kd.R (Kd.int .i64) 3 w' w.heap.size (fun _ => True) v0_ r1 ∧ Below w.heap.size w w' := by
  have HB := Aside0.mk (Below.refl w.heap.size w)
  have H : ((strings_Split.f a0 (⟨#[32]⟩ : ByteArray)).bind fun t105 => (impl_readNumbers.l0 k (([] : List Int)) t105 (t105.length : Int) 0)) = some (r1, r2) := h
  clear h
  obtain ⟨y102, hy102⟩ : ∃ y_ : List Int, y_ = (([] : List Int)) := ⟨_, rfl⟩
  replace H : ((strings_Split.f a0 (⟨#[32]⟩ : ByteArray)).bind fun t105 => (impl_readNumbers.l0 k y102 t105 (t105.length : Int) 0)) = some (r1, r2) := by first | (rw [hy102]; with_reducible exact H) | (have H2_ := (Option.bind_some _ _).symm.trans H; rw [hy102]; with_reducible exact H2_) | (have H2_ := (Option.bind_some _ _).symm.trans H; with_reducible exact H2_) | with_reducible exact H | (rw [hy102]; exact H) | exact H
  have Ny102 := Aside0.mk hy102
  clear hy102
  replace H := Option.bind_eq_some_iff.mp H
  obtain ⟨t105, A20, H⟩ := H
  replace H : (impl_readNumbers.l0 k y102 t105 (t105.length : Int) 0) = some (r1, r2) := H
  have A2 := Aside0.mk A20
  clear A20
  have H' := Aside0.mk H
  clear H
  go_enter Tryz.func66, Tryz.ntmps66
  go_wp2_with (first | ((with_reducible refine gate_dst (N := 9) rfl ?_); (try (refine gate_guard (by rfl) ?_; dsimp only)); refine Kd.R_lit (Kd.int .i64) _ 3 ?hg (N := 9) ?hd (xs := ([] : List Int)) (inner := []) (ok := fun _ => True) (okp := fun _ => True) ?hr ?hp (fun _ hk => hk) trivial (Below.refl _ _) (Nat.le_refl _) (by simp) ?_; (case hd => rfl); (case hg => rfl); (case hr => first | (go_simp; done) | (go_simp; rfl)); (case hp => exact (Reps.none _ _)); intro v103 w3 ho4 hb hg_ hnew_; clear hg_ hnew_; (first | rw [← Ny102.out] at ho4 | (simp only [Int.reduceToNat] at ho4; rw [← Ny102.out] at ho4)); have n0_ := Aside0.mk (Kd.R_lower ho4 (below_size (by repeat (first | (with_reducible first | exact HB.out | apply below_alloc | apply pw_below_drewN | apply below_drew1) | exact HB.out)))); have n1_ := Aside0.mk (below_step (by repeat (first | (with_reducible first | exact HB.out | apply below_alloc | apply pw_below_drewN | apply below_drew1) | exact HB.out)) hb); clear HB; have HO104 := n0_; have HB := n1_; clear n0_ n1_; clear hb ho4) | ((with_reducible refine gate_callee (f := 28) rfl ?_); refine goesL_ (some 11) rfl rfl Tryz.func28 (by kernel_rfl) rfl #[.string a0, .string (⟨#[32]⟩ : ByteArray)] rfl (by (try simp only [List.map_toArray, List.map_cons, List.map_nil]); first | done | rfl | (simp only [List.length_drop, List.length_take]; rfl)) ?_; (with_reducible refine (strings_Split.calls a0 (⟨#[32]⟩ : ByteArray) t105 _ A2.out).mono ?_); rintro e w5 ⟨v106, rfl, ho0, hb⟩; refine ⟨_, rfl, ?_⟩; have n0_ := Aside0.mk (Kd.R_below (by (with_reducible repeat (first | apply Kd.R_alloc | apply Kd.R_drewN | apply Kd.R_drew)); exact HO104.out) hb); have n1_ := Aside0.mk (Kd.R_lower ho0 (below_size (by repeat (first | (with_reducible first | exact HB.out | apply below_alloc | apply pw_below_drewN | apply below_drew1) | exact HB.out)))); have n2_ := Aside0.mk (below_step (by repeat (first | (with_reducible first | exact HB.out | apply below_alloc | apply pw_below_drewN | apply below_drew1) | exact HB.out)) hb); clear HO104; clear HB; have HO104 := n0_; have HO107 := n1_; have HB := n2_; clear n0_ n1_ n2_; (try clear hb); (try clear hb2); (try clear hk); (try clear hi); (try clear ho0); obtain ⟨Ao6, co6, eo6⟩ := Kd.R_slice HO107.out; subst eo6))
  go_loopg [4, 13] k (fun kq v4 v13 w' => ∃ (x4_1 : List Int) (x13_1 : Int), v13 = .int .i64 x13_1 ∧ Aside0 (impl_readNumbers.l0 kq x4_1 t105 (t105.length : Int) x13_1 = some (r1, r2)) ∧ Aside0 (kq ≤ k) ∧ Aside0 (Kd.R (Kd.int .i64) 3 w' w.heap.size (fun _ => True) v4 x4_1) ∧ Aside0 (Kd.R Kd.string 9 w' w.heap.size (fun _ => True) (.slice Ao6 t105.length co6) t105) ∧ Aside0 (Below w.heap.size w w'))
  case atStart => exact ⟨(y102), (0), (by first | rfl | (simp; done) | (simp [*]; done)), H', ⟨Nat.le_refl _⟩, ⟨by (with_reducible repeat (first | apply Kd.R_alloc | apply Kd.R_drewN | apply Kd.R_drew)); exact HO104.out⟩, ⟨by (with_reducible repeat (first | apply Kd.R_alloc | apply Kd.R_drewN | apply Kd.R_drew)); exact HO107.out⟩, ⟨by repeat (first | (with_reducible first | exact HB.out | apply below_alloc | apply pw_below_drewN | apply below_drew1) | exact HB.out)⟩⟩
  case round =>
    clear H'
    try clear c2
    try clear p2
    try clear c6
    obtain ⟨x4_1, x13_1, rfl, HA, HK1, HO_4, HO_11, HB⟩ := hrel
    cases gk with
    | zero => exact absurd HA.out (by simp [impl_readNumbers.l0])
    | succ k1 =>
      have H := HA.out
      clear HA
      simp only [impl_readNumbers.l0] at H
      by_cases c7 : x13_1 < (t105.length : Int)
      · rw [if_pos c7] at H
        have c7b0 : decide (x13_1 < (t105.length : Int)) = true := decide_eq_true c7
        clear c7
        by_cases c8 : 0 ≤ x13_1
        · rw [if_pos c8] at H
          have c8b0 : decide (0 ≤ x13_1) = true := decide_eq_true c8
          clear c8
          by_cases c9 : x13_1 < (t105.length : Int)
          · rw [if_pos c9] at H
            have c9b0 : decide (x13_1 < (t105.length : Int)) = true := decide_eq_true c9
            clear c9
            have HC10 := Aside0.mk H
            clear H
            have p108 : 0 ≤ (x13_1 : Int) := of_decide_eq_true (by first | (with_reducible assumption) | assumption)
            have q108 : x13_1 < (t105.length : Int) := of_decide_eq_true (by first | (with_reducible assumption) | assumption)
            obtain ⟨ad108, e108, hx108_0⟩ := Kd.at_string (Kd.R_reads' HO_11.out).2.2 x13_1 p108 q108
            cases e108
            replace p108 := eq_true p108
            replace q108 := eq_true q108
            go_upto_region 5 with (fail)
            go_cut [24] (fun v24 wc => ∃ (kq : Nat) (x24_9 : Bool), v24 = .bool x24_9 ∧ Aside0 (impl_readNumbers.j1 kq x4_1 (rdOf ByteArray.empty t105 x13_1) t105 (t105.length : Int) x13_1 x24_9 = some (r1, r2)) ∧ Aside0 (kq ≤ k1) ∧ Aside0 (Kd.R (Kd.int .i64) 3 wc w.heap.size (fun _ => True) u4 x4_1) ∧ Aside0 (Kd.R Kd.string 9 wc w.heap.size (fun _ => True) (.slice (some ad108) t105.length co6) t105) ∧ Aside0 (Below w.heap.size w wc))
            case first =>
              have H := HC10.out
              clear HC10
              by_cases c11 : ((rdOf ByteArray.empty t105 x13_1).size : Int) < 1
              · rw [if_pos c11] at H
                have c11b0 : decide (((rdOf ByteArray.empty t105 x13_1).size : Int) < 1) = true := decide_eq_true c11
                have c11b1 : decide ((rdOf ByteArray.empty t105 x13_1).size < 1) = true := decide_eq_true (by omega)
                clear c11
                (first | rw [c11b0] | (simp only [i64_w, i32_w]; rw [c11b0]) | skip)
                have H' := Aside0.mk H
                clear H
                go_wp2
                go_meet
                case rel => exact ⟨_, (true), (by first | rfl | (simp; done) | (simp [*]; done)), H', ⟨by have := HK1.out; first | omega | exact Nat.le_refl _⟩, ⟨by (with_reducible repeat (first | apply Kd.R_alloc | apply Kd.R_drewN | apply Kd.R_drew)); exact HO_4.out⟩, ⟨by (with_reducible repeat (first | apply Kd.R_alloc | apply Kd.R_drewN | apply Kd.R_drew)); exact HO_11.out⟩, ⟨by repeat (first | (with_reducible first | exact HB.out | apply below_alloc | apply pw_below_drewN | apply below_drew1) | exact HB.out)⟩⟩
              · rw [if_neg c11] at H
                have c11b0 : decide (((rdOf ByteArray.empty t105 x13_1).size : Int) < 1) = false := decide_eq_false c11
                have c11b1 : decide ((rdOf ByteArray.empty t105 x13_1).size < 1) = false := decide_eq_false (by omega)
                clear c11
                (first | rw [c11b0] | (simp only [i64_w, i32_w]; rw [c11b0]) | skip)
                have H' := Aside0.mk H
                clear H
                go_wp2
                go_meet
                case rel => exact ⟨_, (decide (((rdOf ByteArray.empty t105 x13_1).size : Int) > 3)), (by first | rfl | (simp; done) | (simp [*]; done)), H', ⟨by have := HK1.out; first | omega | exact Nat.le_refl _⟩, ⟨by (with_reducible repeat (first | apply Kd.R_alloc | apply Kd.R_drewN | apply Kd.R_drew)); exact HO_4.out⟩, ⟨by (with_reducible repeat (first | apply Kd.R_alloc | apply Kd.R_drewN | apply Kd.R_drew)); exact HO_11.out⟩, ⟨by repeat (first | (with_reducible first | exact HB.out | apply below_alloc | apply pw_below_drewN | apply below_drew1) | exact HB.out)⟩⟩
            case rest =>
              clear HC10
              try clear c1
              try clear p1
              try clear q1
              try clear hx1
              try clear c2
              try clear p2
              try clear c6
              try clear c7
              try clear c7b0
              try clear c8
              try clear c8b0
              try clear c9
              try clear c9b0
              try clear p10
              try clear q10
              try clear hx10
              try clear c11
              try clear c11b0
              try clear c11b1
              try clear hx108_0
              try clear p108
              try clear p2
              try clear q108
              obtain ⟨kq, x24_9, rfl, HA, HJ9, HO_4, HO_11, HB⟩ := hcut
              cases kq with
              | zero => exact absurd HA.out (by simp [impl_readNumbers.j1])
              | succ kj9 =>
                have H := HA.out
                clear HA
                simp only [impl_readNumbers.j1] at H
                by_cases c12 : x24_9 = true
                · subst c12
                  have H1 : (some (([] : List Int), false)) = some (r1, r2) := by rw [if_pos rfl] at H; exact H
                  clear H
                  have H := H1
                  clear H1
                  simp only [Option.some.injEq, Prod.mk.injEq] at H
                  obtain ⟨rfl, rfl⟩ := H
                  go_wp2
                  go_ret2
                  exact ⟨_, by first | rfl | (simp [errW_none, errW_some] <;> rfl) | (simp [*, errW_none, errW_some] <;> rfl) | (exfalso; simp_all; done), by first | exact Kd.R_nil _ _ _ _ _ | exact Kd.N_nil _ _ _ _ _ | exact Kd.V_nil _ _ _ _ _ | exact Kd.Q_nil _ _ _ _ _ | exact Kd.S_nil _ _ _ _ _, by repeat (first | (with_reducible first | exact HB.out | apply below_alloc | apply pw_below_drewN | apply below_drew1) | exact HB.out)⟩
                · replace c12 := Bool.eq_false_iff.mpr c12
                  subst c12
                  have H1 : (impl_readNumbers.l1 kj9 x4_1 (rdOf ByteArray.empty t105 x13_1) 0 t105 (t105.length : Int) x13_1 ((rdOf ByteArray.empty t105 x13_1).size : Int) 0) = some (r1, r2) := by rw [if_neg (show ¬ (false = true) by decide)] at H; exact H
                  clear H
                  have H := H1
                  clear H1
                  have H' := Aside0.mk H
                  clear H
                  go_wp2
                  go_loopg [7, 27] kj9 (fun kq v7 v27 w' => ∃ (x7_3 : Int) (x27_3 : Int), v7 = .int .i64 x7_3 ∧ v27 = .int .i64 x27_3 ∧ Aside0 (impl_readNumbers.l1 kq x4_1 (rdOf ByteArray.empty t105 x13_1) x7_3 t105 (t105.length : Int) x13_1 ((rdOf ByteArray.empty t105 x13_1).size : Int) x27_3 = some (r1, r2)) ∧ Aside0 (kq ≤ kj9) ∧ Aside0 (Kd.R (Kd.int .i64) 3 w' w.heap.size (fun _ => True) u4 x4_1) ∧ Aside0 (Kd.R Kd.string 9 w' w.heap.size (fun _ => True) (.slice (some ad108) t105.length co6) t105) ∧ Aside0 (Below w.heap.size w w'))
                  case atStart => exact ⟨(0), (0), (by first | rfl | (simp; done) | (simp [*]; done)), (by first | rfl | (simp; done) | (simp [*]; done)), H', ⟨Nat.le_refl _⟩, ⟨by (with_reducible repeat (first | apply Kd.R_alloc | apply Kd.R_drewN | apply Kd.R_drew)); exact HO_4.out⟩, ⟨by (with_reducible repeat (first | apply Kd.R_alloc | apply Kd.R_drewN | apply Kd.R_drew)); exact HO_11.out⟩, ⟨by repeat (first | (with_reducible first | exact HB.out | apply below_alloc | apply pw_below_drewN | apply below_drew1) | exact HB.out)⟩⟩
                  case round =>
                    clear H'
                    try clear c1
                    try clear p1
                    try clear q1
                    try clear hx1
                    try clear c2
                    try clear p2
                    try clear c6
                    try clear c7
                    try clear c7b0
                    try clear c8
                    try clear c8b0
                    try clear c9
                    try clear c9b0
                    try clear p10
                    try clear q10
                    try clear hx10
                    try clear c11
                    try clear c11b0
                    try clear c11b1
                    try clear c12
                    try clear hx108_0
                    try clear p1
                    try clear p10
                    try clear p108
                    try clear p2
                    try clear q1
                    try clear q10
                    try clear q108
                    obtain ⟨x7_3, x27_3, rfl, rfl, HA, HK3, HO_4, HO_11, HB⟩ := hrel
                    cases gk with
                    | zero => exact absurd HA.out (by simp [impl_readNumbers.l1])
                    | succ k3 =>
                      have H := HA.out
                      clear HA
                      simp only [impl_readNumbers.l1] at H
                      by_cases c13 : x27_3 < ((rdOf ByteArray.empty t105 x13_1).size : Int)
                      · rw [if_pos c13] at H
                        have c13b0 : decide (x27_3 < ((rdOf ByteArray.empty t105 x13_1).size : Int)) = true := decide_eq_true c13
                        clear c13
                        by_cases c14 : 0 ≤ x27_3
                        · rw [if_pos c14] at H
                          have c14b0 : decide (0 ≤ x27_3) = true := decide_eq_true c14
                          clear c14
                          by_cases c15 : x27_3 < ((rdOf ByteArray.empty t105 x13_1).size : Int)
                          · rw [if_pos c15] at H
                            have c15b0 : decide (x27_3 < ((rdOf ByteArray.empty t105 x13_1).size : Int)) = true := decide_eq_true c15
                            clear c15
                            by_cases c17 : (bt (rdOf ByteArray.empty t105 x13_1) x27_3) < 48
                            · rw [if_pos c17] at H
                              have c17b0 : decide ((bt (rdOf ByteArray.empty t105 x13_1) x27_3) < 48) = true := decide_eq_true c17
                              clear c17
                              simp only [Option.some.injEq, Prod.mk.injEq] at H
                              obtain ⟨rfl, rfl⟩ := H
                              have p16 : 0 ≤ (x27_3 : Int) := of_decide_eq_true (by first | (with_reducible assumption) | assumption)
                              have q16 : x27_3 < ((rdOf ByteArray.empty t105 x13_1).size : Int) := of_decide_eq_true (by first | (with_reducible assumption) | assumption)
                              have hx16 := bt_at (rdOf ByteArray.empty t105 x13_1) x27_3
                              replace p16 := eq_true p16
                              replace q16 := eq_true q16
                              go_wp2
                              go_ret2
                              exact ⟨_, by first | rfl | (simp [errW_none, errW_some] <;> rfl) | (simp [*, errW_none, errW_some] <;> rfl) | (exfalso; simp_all; done), by first | exact Kd.R_nil _ _ _ _ _ | exact Kd.N_nil _ _ _ _ _ | exact Kd.V_nil _ _ _ _ _ | exact Kd.Q_nil _ _ _ _ _ | exact Kd.S_nil _ _ _ _ _, by repeat (first | (with_reducible first | exact HB.out | apply below_alloc | apply pw_below_drewN | apply below_drew1) | exact HB.out)⟩
                            · rw [if_neg c17] at H
                              have c17b0 : decide ((bt (rdOf ByteArray.empty t105 x13_1) x27_3) < 48) = false := decide_eq_false c17
                              clear c17
                              by_cases c19 : (bt (rdOf ByteArray.empty t105 x13_1) x27_3) > 57
                              · rw [if_pos c19] at H
                                have c19b0 : decide (57 < (bt (rdOf ByteArray.empty t105 x13_1) x27_3)) = true := decide_eq_true c19
                                clear c19
                                simp only [Option.some.injEq, Prod.mk.injEq] at H
                                obtain ⟨rfl, rfl⟩ := H
                                have p16 : 0 ≤ (x27_3 : Int) := of_decide_eq_true (by first | (with_reducible assumption) | assumption)
                                have q16 : x27_3 < ((rdOf ByteArray.empty t105 x13_1).size : Int) := of_decide_eq_true (by first | (with_reducible assumption) | assumption)
                                have hx16 := bt_at (rdOf ByteArray.empty t105 x13_1) x27_3
                                replace p16 := eq_true p16
                                replace q16 := eq_true q16
                                have p18 : 0 ≤ (x27_3 : Int) := of_decide_eq_true (by first | (with_reducible assumption) | assumption)
                                have q18 : x27_3 < ((rdOf ByteArray.empty t105 x13_1).size : Int) := of_decide_eq_true (by first | (with_reducible assumption) | assumption)
                                have hx18 := bt_at (rdOf ByteArray.empty t105 x13_1) x27_3
                                replace p18 := eq_true p18
                                replace q18 := eq_true q18
                                go_wp2
                                go_ret2
                                exact ⟨_, by first | rfl | (simp [errW_none, errW_some] <;> rfl) | (simp [*, errW_none, errW_some] <;> rfl) | (exfalso; simp_all; done), by first | exact Kd.R_nil _ _ _ _ _ | exact Kd.N_nil _ _ _ _ _ | exact Kd.V_nil _ _ _ _ _ | exact Kd.Q_nil _ _ _ _ _ | exact Kd.S_nil _ _ _ _ _, by repeat (first | (with_reducible first | exact HB.out | apply below_alloc | apply pw_below_drewN | apply below_drew1) | exact HB.out)⟩
                              · rw [if_neg c19] at H
                                have c19b0 : decide (57 < (bt (rdOf ByteArray.empty t105 x13_1) x27_3)) = false := decide_eq_false c19
                                clear c19
                                have H' := Aside0.mk H
                                clear H
                                have p16 : 0 ≤ (x27_3 : Int) := of_decide_eq_true (by first | (with_reducible assumption) | assumption)
                                have q16 : x27_3 < ((rdOf ByteArray.empty t105 x13_1).size : Int) := of_decide_eq_true (by first | (with_reducible assumption) | assumption)
                                have hx16 := bt_at (rdOf ByteArray.empty t105 x13_1) x27_3
                                replace p16 := eq_true p16
                                replace q16 := eq_true q16
                                have p18 : 0 ≤ (x27_3 : Int) := of_decide_eq_true (by first | (with_reducible assumption) | assumption)
                                have q18 : x27_3 < ((rdOf ByteArray.empty t105 x13_1).size : Int) := of_decide_eq_true (by first | (with_reducible assumption) | assumption)
                                have hx18 := bt_at (rdOf ByteArray.empty t105 x13_1) x27_3
                                replace p18 := eq_true p18
                                replace q18 := eq_true q18
                                have p20 : 0 ≤ (x27_3 : Int) := of_decide_eq_true (by first | (with_reducible assumption) | assumption)
                                have q20 : x27_3 < ((rdOf ByteArray.empty t105 x13_1).size : Int) := of_decide_eq_true (by first | (with_reducible assumption) | assumption)
                                have hx20 := bt_at (rdOf ByteArray.empty t105 x13_1) x27_3
                                replace p20 := eq_true p20
                                replace q20 := eq_true q20
                                go_wp2
                                go_roundg k3
                                case measure => have := HK1.out; have := HJ9.out; have := HK3.out; omega
                                case rel => exact ⟨(wrap64 ((wrap64 (x7_3 * 10)) + (((bt (rdOf ByteArray.empty t105 x13_1) x27_3) - 48) % 256))), (wrap64 (x27_3 + 1)), (by first | rfl | (simp; done) | (simp [*]; done)), (by first | rfl | (simp; done) | (simp [*]; done)), H', ⟨by have := HK1.out; have := HJ9.out; have := HK3.out; omega⟩, ⟨by (with_reducible repeat (first | apply Kd.R_alloc | apply Kd.R_drewN | apply Kd.R_drew)); exact HO_4.out⟩, ⟨by (with_reducible repeat (first | apply Kd.R_alloc | apply Kd.R_drewN | apply Kd.R_drew)); exact HO_11.out⟩, ⟨by repeat (first | (with_reducible first | exact HB.out | apply below_alloc | apply pw_below_drewN | apply below_drew1) | exact HB.out)⟩⟩
                          · rw [if_neg c15] at H
                            exact absurd H (by simp)
                        · rw [if_neg c14] at H
                          exact absurd H (by simp)
                      · rw [if_neg c13] at H
                        have c13b0 : decide (x27_3 < ((rdOf ByteArray.empty t105 x13_1).size : Int)) = false := decide_eq_false c13
                        clear c13
                        by_cases c21 : x4_1.length < 17592186044416
                        · rw [if_pos c21] at H
                          have LMc21 := Aside0.mk c21
                          clear c21
                          obtain ⟨y109, hy109⟩ : ∃ y_ : List Int, y_ = (x4_1 ++ [x7_3]) := ⟨_, rfl⟩
                          replace H : (impl_readNumbers.l0 k3 y109 t105 (t105.length : Int) (wrap64 (x13_1 + 1))) = some (r1, r2) := by first | (rw [hy109]; with_reducible exact H) | (have H2_ := (Option.bind_some _ _).symm.trans H; rw [hy109]; with_reducible exact H2_) | (have H2_ := (Option.bind_some _ _).symm.trans H; with_reducible exact H2_) | with_reducible exact H | (rw [hy109]; exact H) | exact H
                          have Ny109 := Aside0.mk hy109
                          clear hy109
                          have H' := Aside0.mk H
                          clear H
                          go_wp2_with (first | ((with_reducible refine gate_builtin (b := .append) (xs := #[.tmp 49, .tmp 51]) rfl ?_); (try (refine gate_guard (by rfl) ?_; dsimp only)); at_builtin; refine Kd.R_append (Kd.int .i64) (w0 := w) w.heap.size rfl (.tmp 49) (.tmp 51) 23 3 (.int .i64 0) 8 rfl Tryz.underlying23 info3 rfl (by decide) (by omega) u4 x4_1 x7_3 [.int .i64 x7_3] (fun _ => True) (fun _ => False) rfl rfl ?aP (fun _ hk => hk.elim) ?aF ?aO ?aB ?aS ?aL ?_; (case aP => exact rfl); (case aB => exact (by repeat (first | (with_reducible first | exact HB.out | apply below_alloc | apply pw_below_drewN | apply below_drew1) | exact HB.out))); (case aF => exact (fun _ _ => trivial)); (case aO => exact (by (with_reducible repeat (first | apply Kd.R_alloc | apply Kd.R_drewN | apply Kd.R_drew)); exact HO_4.out)); (case aS => exact (below_size (by repeat (first | (with_reducible first | exact HB.out | apply below_alloc | apply pw_below_drewN | apply below_drew1) | exact HB.out)))); (case aL => have := LMc21.out; omega); intro v110 w22 ho hb hg hat; rw [← Ny109.out] at ho; have n0_ := Aside0.mk (Kd.R_over' (by (with_reducible repeat (first | apply Kd.R_alloc | apply Kd.R_drewN | apply Kd.R_drew)); exact HO_11.out) (Kd.R_typed (by (with_reducible repeat (first | apply Kd.R_alloc | apply Kd.R_drewN | apply Kd.R_drew)); exact HO_4.out)) (by decide) hg); have n1_ := Aside0.mk (hb); have n2_ := Aside0.mk (ho); clear HO_11; clear HB; clear HO_4; have HO_11 := n0_; have HB := n1_; have HO111 := n2_; clear n0_ n1_ n2_; clear ho hb hg hat))
                          go_roundg k3
                          case measure => have := HK1.out; have := HJ9.out; have := HK3.out; omega
                          case rel => exact ⟨(y109), (wrap64 (x13_1 + 1)), (by first | rfl | (simp; done) | (simp [*]; done)), H', ⟨by have := HK1.out; have := HJ9.out; have := HK3.out; omega⟩, ⟨by (with_reducible repeat (first | apply Kd.R_alloc | apply Kd.R_drewN | apply Kd.R_drew)); exact HO111.out⟩, ⟨by (with_reducible repeat (first | apply Kd.R_alloc | apply Kd.R_drewN | apply Kd.R_drew)); exact HO_11.out⟩, ⟨by repeat (first | (with_reducible first | exact HB.out | apply below_alloc | apply pw_below_drewN | apply below_drew1) | exact HB.out)⟩⟩
                        · rw [if_neg c21] at H
                          exact absurd H (by simp)
          · rw [if_neg c9] at H
            exact absurd H (by simp)
        · rw [if_neg c8] at H
          exact absurd H (by simp)
      · rw [if_neg c7] at H
        have c7b0 : decide (x13_1 < (t105.length : Int)) = false := decide_eq_false c7
        clear c7
        simp only [Option.some.injEq, Prod.mk.injEq] at H
        obtain ⟨rfl, rfl⟩ := H
        go_wp2
        go_ret2
        exact ⟨_, by first | rfl | (simp [errW_none, errW_some] <;> rfl) | (simp [*, errW_none, errW_some] <;> rfl) | (exfalso; simp_all; done), by (with_reducible repeat (first | apply Kd.R_alloc | apply Kd.R_drewN | apply Kd.R_drew)); exact HO_4.out, by repeat (first | (with_reducible first | exact HB.out | apply below_alloc | apply pw_below_drewN | apply below_drew1) | exact HB.out)⟩

/-! ### impl_become: function 67, by hand -/
set_option maxRecDepth 100000 in
theorem impl_become.yes (g : Nat) (A : Option Addr) (n c : Nat) (x : Value) (w : World) (h : w.heap[g]? = some (.cells #[x] 23 (0, 0))) :
    Calls Tryz.prog 67 #[.pointer (some ⟨g, 0, none⟩), .slice A n c, .bool true] w fun e w' => e = .returned (.string ⟨#[111, 107]⟩) ∧ w' = w.setCell ⟨g, 0, none⟩ (.slice A n c) := by
  have c0 : _ = some _ := blk_cell h 0
  have f0 := blk_frozen h 0
  clear h
  go_enter Tryz.func67, Tryz.ntmps67
  go_wp2
  go_ret
  exact ⟨rfl, rfl⟩
set_option maxRecDepth 100000 in
theorem impl_become.no (g : Nat) (A : Option Addr) (n c : Nat) (w : World) :
    Calls Tryz.prog 67 #[.pointer (some ⟨g, 0, none⟩), .slice A n c, .bool false] w fun e w' => e = .returned (.string ⟨#[110, 111]⟩) ∧ w' = w := by
  go_enter Tryz.func67, Tryz.ntmps67
  go_wp2
  go_ret
  exact ⟨rfl, rfl⟩
/-- A list of the call's own is laid into the ruler's cell. -/
theorem Ruled.put {w w1 : World} {B g : Nat} {A : Option Addr} {c : Nat} {l : List Int} {x : Value} (hg : w.heap[g]? = some (.cells #[x] 23 (0, 0))) (hb : Below w.heap.size w w1) (hr : Kd.R (Kd.int .i64) 3 w1 w.heap.size (fun _ => True) (.slice A l.length c) l) (hB : B ≤ w.heap.size) : Ruled w (w1.setCell ⟨g, 0, none⟩ (.slice A l.length c)) B g l :=
  ⟨⟨hb.os, hb.tape, hb.output, by simp [World.setCell]; exact hb.size, fun k hk hne => (Below.heap_setCell _ _ _ k (fun e => hne (by rw [e]))).trans (hb.block k hk)⟩, A, c, blk_put (blk_below hg hb) 0 _ rfl, Kd.R_lower (Kd.R_set hr (blk_below hg hb) (by decide) 0 _) hB⟩

/-! ### impl_withRest: function 31, by hand: the lines that this law asks -/
/-! #### a map that the call makes of names and numbers -/
theorem impl_withRest.keyS : Go.Maps.Keyed Tryz.prog 9 := Go.Maps.string_keyed Tryz.underlying9
theorem impl_withRest.zeroI (w : World) : (zeroValue 3).run Tryz.prog w = .ok (.int .i64 0) w := by kernel_rfl
theorem impl_withRest.map_event {P : Program} {ops : Array Oper} {rest : List Oper} {o : Oper} {a : Act} {Q : Exit → Act → World → Prop} {W : World} (k : TypeId) (R : Value → Option (DataW Unit × List MemPlace)) (hgd : o.guard = none) {N : Tmp} (_hd : o.dst = some N)
    (hrun : (execOp a.eval o).run P W = .ok (.value (.map (some W.heap.size))) (W.alloc (.map #[] 0)))
    (h : ∀ g, g = W.heap.size → ∀ w1, w1.ownsMap P k R g 0 (.map []) → Below W.heap.size W w1 → wpList P ops Q rest (a.put o.dst (.map (some g))) w1) : wpList P ops Q (o :: rest) a W :=
  Kd.event_run hgd hrun (h _ rfl _ (World.ownsMap_made _ _ _ _) (below_alloc (Below.refl _ _) _))
theorem impl_withRest.insert_own {P : Program} (w : World) {ops : Array Oper} {rest : List Oper} {o : Oper} {a : Act} {Q : Exit → Act → World → Prop}
    (hg : o.guard = none) (m x v : Operand) (t : TypeId) (hop : o.op = Op.insert t m x v)
    (k e : TypeId) (K : Go.Maps.Keyed P k) (ht : P.underlying t = some (.map k e)) (R : Value → Option (DataW Unit × List MemPlace)) (b n : Nat) (D : DataW Unit)
    (hm : a.eval m = .map (some b)) (hown : w.ownsMap P k R b n D) (hn : n < maxLen) (key val : Value) (kl : Lit) (hx : a.eval x = key) (hv : a.eval v = val) (hkey : keyOf P k key = some kl)
    (d : DataW Unit) (ps : List MemPlace) (hval : R val = some (d, ps))
    (hK : ∀ w', w'.ownsMap P k R b (n + 1) (D.put kl d) → w.grownBy w' (some b) → wpList P ops Q rest (a.put o.dst undef) w') :
    wpList P ops Q (o :: rest) a w := by
  refine wpList_plain hg fun K' hK' => ?_
  obtain ⟨w', hrun, r1, r2⟩ := hown.update K ht hn hkey hval
  unfold Oper.wp
  simp [execOp, hop, hm, hx, hv, hrun, Result.andThen]
  exact hK' _ _ (hK w' r1 r2)
def impl_withRest.f_set (k : Nat) (l : List Int) (rest : ByteArray) : Option (ByteArray × List Int) := (impl_readNumbers.f k rest).bind fun q => if q.2 = true then (if 0 < q.1.length then ((impl_isRuler.f k q.1).bind fun x => if x = true then some (⟨#[111, 107]⟩, q.1) else some (⟨#[110, 111]⟩, l)) else none) else some (⟨#[110, 111]⟩, l)
theorem impl_withRest.mono_set (k : Nat) (l : List Int) (rest : ByteArray) : LeO (impl_withRest.f_set k l rest) (impl_withRest.f_set (k + 1) l rest) := LeO.bind (impl_readNumbers.mono _ _) (fun _ => LeO.ite (LeO.ite (LeO.bind (impl_isRuler.mono _ _) (fun _ => LeO.refl _)) (LeO.refl _)) (LeO.refl _))
set_option maxHeartbeats 8000000 in
set_option maxRecDepth 100000 in
theorem impl_withRest.go_set (k : Nat) (B g : Nat) (A0 : Option Addr) (c0 : Nat) (l0 : List Int) (rest r : ByteArray) (l1 : List Int) (w : World) (hg : w.heap[g]? = some (.cells #[.slice A0 l0.length c0] 23 (0, 0))) (hr0 : Kd.R (Kd.int .i64) 3 w B (fun _ => True) (.slice A0 l0.length c0) l0) (hB : B ≤ g) (htab_ : TabW w) (h : impl_withRest.f_set k l0 rest = some (r, l1)) :
    Calls Tryz.prog 31 #[.pointer (some ⟨g, 0, none⟩), .string ⟨#[115, 101, 116]⟩, .string rest] w fun e w' => e = .returned (.string r) ∧ Ruled w w' B g l1 := by
  have HG := Aside0.mk hg
  have HR := Aside0.mk hr0
  have HB := Aside0.mk (Below.refl w.heap.size w)
  have HBB := Aside0.mk (show B ≤ w.heap.size from Nat.le_trans hB (Nat.le_of_lt (blk_lt hg)))
  have HTAB_ := Aside0.mk htab_
  have cg : _ = some _ := blk_cell hg 0
  have hmm := @run_makeMap Tryz.prog
  clear hg hr0 hB htab_
  obtain ⟨⟨q, ok⟩, h1, h⟩ := Option.bind_eq_some_iff.mp h
  have A1 := Aside0.mk h1
  clear h1
  simp only at h
  by_cases c1 : ok = true
  · rw [if_pos c1] at h
    subst c1
    by_cases c2 : 0 < q.length
    · rw [if_pos c2] at h
      obtain ⟨b, h2, h⟩ := Option.bind_eq_some_iff.mp h
      have A2 := Aside0.mk h2
      have C2 := Aside0.mk c2
      clear h2 c2
      by_cases c3 : b = true
      · rw [if_pos c3] at h
        subst c3
        simp only [Option.some.injEq, Prod.mk.injEq] at h
        obtain ⟨rfl, rfl⟩ := h
        go_enter Tryz.func31, Tryz.ntmps31
        go_wp2_with (first
          | ((with_reducible refine gate_dst (N := 61) rfl ?_); refine impl_withRest.map_event 9 (plainElem Tryz.prog 3) ?hg (N := 61) ?hd ?hr ?_; (case hd => rfl); (case hg => rfl); (case hr => first | (go_simp; done) | (go_simp; rfl)); intro gm hgm wm hm hb; have GM := Aside0.mk (show w.heap.size ≤ gm by rw [hgm]; exact (below_size (by repeat (first | (with_reducible first | exact HB.out | apply below_alloc | apply pw_below_drewN | apply below_drew1) | exact HB.out)))); have n0_ := Aside0.mk (below_step (by repeat (first | (with_reducible first | exact HB.out | apply below_alloc | apply pw_below_drewN | apply below_drew1) | exact HB.out)) hb); have HM := Aside0.mk hm; clear hgm hm hb HB; have HB := n0_; clear n0_)
          | (refine impl_withRest.insert_own _ rfl _ _ _ 86 rfl 9 3 impl_withRest.keyS Tryz.underlying86 _ gm _ _ rfl HM.out (by unfold maxLen; omega) _ _ _ rfl rfl (Go.WideMaps.keyOf_string_mk Tryz.underlying9 (by decide)) _ [] (plainElem_int Tryz.underlying3 (by decide)) ?_; intro wm hm1 hg1; have n0_ := Aside0.mk (pw_below_grown HB.out _ HB.out.size hg1 (fun k hk => by obtain rfl := Option.some.inj hk; exact GM.out)); have n1_ := Aside0.mk hm1; clear HB HM hm1 hg1; have HB := n0_; have HM := n1_; clear n0_ n1_)
          | (go_at_call 66; refine (impl_readNumbers.calls k rest q true _ A1.out).mono ?_; rintro e w1 ⟨v1, rfl, hr1, hb1⟩; obtain ⟨A7, c7, rfl⟩ := Kd.R_slice hr1; have HQ := Aside0.mk (Kd.R_lower hr1 (below_size (by repeat (first | (with_reducible first | exact HB.out | apply below_alloc | apply pw_below_drewN | apply below_drew1) | exact HB.out)))); have n0_ := Aside0.mk (below_step (by repeat (first | (with_reducible first | exact HB.out | apply below_alloc | apply pw_below_drewN | apply below_drew1) | exact HB.out)) hb1); clear HB HM hr1 hb1; have HB := n0_; clear n0_; obtain ⟨ad7, e7, hx7⟩ := Kd.at_int (Kd.R_reads' HQ.out).2.2 0 (by omega) (by have := C2.out; omega); cases e7; rw [show ad7.add (0 : Int).toNat = ad7 by simp [Addr.add]] at hx7; have hl7 := World.block_lt_of_cell? _ _ hx7; have p7 : (0 : Int) < (q.length : Int) := by have := C2.out; omega)
          | (go_at_call 35; refine (impl_isRuler.calls k _ _ q true _ (Kd.R_reads' HQ.out).2.2 (Kd.R_reads' HQ.out).2.1 A2.out).mono ?_; rintro e w1_ ⟨rfl, ⟨⟨n_, rfl⟩⟩⟩; have n0_ := Aside0.mk (pw_below_drewN (by repeat (first | (with_reducible first | exact HB.out | apply below_alloc | apply pw_below_drewN | apply below_drew1) | exact HB.out)) n_); clear HB; have HB := n0_; clear n0_; have n1_ := Aside0.mk (Kd.R_drewN HQ.out n_); clear HQ; have HQ := n1_; clear n1_)
          | (go_at_call 67; refine (impl_become.yes g _ _ _ _ _ (blk_below HG.out (by repeat (first | (with_reducible first | exact HB.out | apply below_alloc | apply pw_below_drewN | apply below_drew1) | exact HB.out)))).mono ?_; rintro e w3 ⟨rfl, rfl⟩))
        go_ret
        exact ⟨rfl, Ruled.put HG.out HB.out HQ.out HBB.out⟩
      · rw [if_neg c3] at h
        replace c3 := Bool.eq_false_iff.mpr c3
        subst c3
        simp only [Option.some.injEq, Prod.mk.injEq] at h
        obtain ⟨rfl, rfl⟩ := h
        go_enter Tryz.func31, Tryz.ntmps31
        go_wp2_with (first
          | ((with_reducible refine gate_dst (N := 61) rfl ?_); refine impl_withRest.map_event 9 (plainElem Tryz.prog 3) ?hg (N := 61) ?hd ?hr ?_; (case hd => rfl); (case hg => rfl); (case hr => first | (go_simp; done) | (go_simp; rfl)); intro gm hgm wm hm hb; have GM := Aside0.mk (show w.heap.size ≤ gm by rw [hgm]; exact (below_size (by repeat (first | (with_reducible first | exact HB.out | apply below_alloc | apply pw_below_drewN | apply below_drew1) | exact HB.out)))); have n0_ := Aside0.mk (below_step (by repeat (first | (with_reducible first | exact HB.out | apply below_alloc | apply pw_below_drewN | apply below_drew1) | exact HB.out)) hb); have HM := Aside0.mk hm; clear hgm hm hb HB; have HB := n0_; clear n0_)
          | (refine impl_withRest.insert_own _ rfl _ _ _ 86 rfl 9 3 impl_withRest.keyS Tryz.underlying86 _ gm _ _ rfl HM.out (by unfold maxLen; omega) _ _ _ rfl rfl (Go.WideMaps.keyOf_string_mk Tryz.underlying9 (by decide)) _ [] (plainElem_int Tryz.underlying3 (by decide)) ?_; intro wm hm1 hg1; have n0_ := Aside0.mk (pw_below_grown HB.out _ HB.out.size hg1 (fun k hk => by obtain rfl := Option.some.inj hk; exact GM.out)); have n1_ := Aside0.mk hm1; clear HB HM hm1 hg1; have HB := n0_; have HM := n1_; clear n0_ n1_)
          | (go_at_call 66; refine (impl_readNumbers.calls k rest q true _ A1.out).mono ?_; rintro e w1 ⟨v1, rfl, hr1, hb1⟩; obtain ⟨A7, c7, rfl⟩ := Kd.R_slice hr1; have HQ := Aside0.mk (Kd.R_lower hr1 (below_size (by repeat (first | (with_reducible first | exact HB.out | apply below_alloc | apply pw_below_drewN | apply below_drew1) | exact HB.out)))); have n0_ := Aside0.mk (below_step (by repeat (first | (with_reducible first | exact HB.out | apply below_alloc | apply pw_below_drewN | apply below_drew1) | exact HB.out)) hb1); clear HB HM hr1 hb1; have HB := n0_; clear n0_; obtain ⟨ad7, e7, hx7⟩ := Kd.at_int (Kd.R_reads' HQ.out).2.2 0 (by omega) (by have := C2.out; omega); cases e7; rw [show ad7.add (0 : Int).toNat = ad7 by simp [Addr.add]] at hx7; have hl7 := World.block_lt_of_cell? _ _ hx7; have p7 : (0 : Int) < (q.length : Int) := by have := C2.out; omega)
          | (go_at_call 35; refine (impl_isRuler.calls k _ _ q false _ (Kd.R_reads' HQ.out).2.2 (Kd.R_reads' HQ.out).2.1 A2.out).mono ?_; rintro e w1_ ⟨rfl, ⟨⟨n_, rfl⟩⟩⟩; have n0_ := Aside0.mk (pw_below_drewN (by repeat (first | (with_reducible first | exact HB.out | apply below_alloc | apply pw_below_drewN | apply below_drew1) | exact HB.out)) n_); clear HB; have HB := n0_; clear n0_; have n1_ := Aside0.mk (Kd.R_drewN HQ.out n_); clear HQ; have HQ := n1_; clear n1_)
          | (go_at_call 67; refine (impl_become.no g _ _ _ _).mono ?_; rintro e w3 ⟨rfl, rfl⟩))
        go_ret
        exact ⟨rfl, Ruled.same HG.out HR.out (by repeat (first | (with_reducible first | exact HB.out | apply below_alloc | apply pw_below_drewN | apply below_drew1) | exact HB.out))⟩
    · rw [if_neg c2] at h
      exact absurd h (by simp)
  · rw [if_neg c1] at h
    replace c1 := Bool.eq_false_iff.mpr c1
    subst c1
    simp only [Option.some.injEq, Prod.mk.injEq] at h
    obtain ⟨rfl, rfl⟩ := h
    go_enter Tryz.func31, Tryz.ntmps31
    go_wp2_with (first
      | ((with_reducible refine gate_dst (N := 61) rfl ?_); refine impl_withRest.map_event 9 (plainElem Tryz.prog 3) ?hg (N := 61) ?hd ?hr ?_; (case hd => rfl); (case hg => rfl); (case hr => first | (go_simp; done) | (go_simp; rfl)); intro gm hgm wm hm hb; have GM := Aside0.mk (show w.heap.size ≤ gm by rw [hgm]; exact (below_size (by repeat (first | (with_reducible first | exact HB.out | apply below_alloc | apply pw_below_drewN | apply below_drew1) | exact HB.out)))); have n0_ := Aside0.mk (below_step (by repeat (first | (with_reducible first | exact HB.out | apply below_alloc | apply pw_below_drewN | apply below_drew1) | exact HB.out)) hb); have HM := Aside0.mk hm; clear hgm hm hb HB; have HB := n0_; clear n0_)
      | (refine impl_withRest.insert_own _ rfl _ _ _ 86 rfl 9 3 impl_withRest.keyS Tryz.underlying86 _ gm _ _ rfl HM.out (by unfold maxLen; omega) _ _ _ rfl rfl (Go.WideMaps.keyOf_string_mk Tryz.underlying9 (by decide)) _ [] (plainElem_int Tryz.underlying3 (by decide)) ?_; intro wm hm1 hg1; have n0_ := Aside0.mk (pw_below_grown HB.out _ HB.out.size hg1 (fun k hk => by obtain rfl := Option.some.inj hk; exact GM.out)); have n1_ := Aside0.mk hm1; clear HB HM hm1 hg1; have HB := n0_; have HM := n1_; clear n0_ n1_)
      | (go_at_call 66; refine (impl_readNumbers.calls k rest q false _ A1.out).mono ?_; rintro e w1 ⟨v1, rfl, hr1, hb1⟩; obtain ⟨A7, c7, rfl⟩ := Kd.R_slice hr1; have n0_ := Aside0.mk (below_step (by repeat (first | (with_reducible first | exact HB.out | apply below_alloc | apply pw_below_drewN | apply below_drew1) | exact HB.out)) hb1); clear HB HM hr1 hb1; have HB := n0_; clear n0_))
    go_ret
    exact ⟨rfl, Ruled.same HG.out HR.out (by repeat (first | (with_reducible first | exact HB.out | apply below_alloc | apply pw_below_drewN | apply below_drew1) | exact HB.out))⟩
def impl_withRest.f (k : Nat) (l : List Int) (word rest : ByteArray) : Option (ByteArray × List Int) :=
  if word = (⟨#[115, 101, 116]⟩ : ByteArray) then impl_withRest.f_set k l rest else none
theorem impl_withRest.mono : ∀ a0 a1 a2 k, LeO (impl_withRest.f k a0 a1 a2) (impl_withRest.f (k + 1) a0 a1 a2) := fun _ _ _ _ => LeO.ite (impl_withRest.mono_set _ _ _) (LeO.refl _)
theorem impl_withRest.calls (k : Nat) (B g : Nat) (A0 : Option Addr) (c0 : Nat) (l0 : List Int) (word rest r : ByteArray) (l1 : List Int) (w : World) (hg : w.heap[g]? = some (.cells #[.slice A0 l0.length c0] 23 (0, 0))) (hr0 : Kd.R (Kd.int .i64) 3 w B (fun _ => True) (.slice A0 l0.length c0) l0) (hB : B ≤ g) (htab_ : TabW w) (h : impl_withRest.f k l0 word rest = some (r, l1)) :
    Calls Tryz.prog 31 #[.pointer (some ⟨g, 0, none⟩), .string word, .string rest] w fun e w' => e = .returned (.string r) ∧ Ruled w w' B g l1 := by
  unfold impl_withRest.f at h
  by_cases d_set : word = (⟨#[115, 101, 116]⟩ : ByteArray)
  · rw [if_pos d_set] at h
    subst d_set
    exact impl_withRest.go_set k B g A0 c0 l0 rest r l1 w hg hr0 hB htab_ h
  rw [if_neg d_set] at h
  exact absurd h (by simp)

end Go.Proofs.YtcmpkabpmmmhoaaGreatDoor.PFnExecuteEnds
