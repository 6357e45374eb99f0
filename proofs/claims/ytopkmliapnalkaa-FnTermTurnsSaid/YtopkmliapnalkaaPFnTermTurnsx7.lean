/- Written by a program of this claim out of the translation: plain Lean functions and their contracts; what is proved: each Go function of this text comes to what its Lean function says. -/
import Derived.Test.YtopkmliapnalkaaPFnTermTurnsx0
import Derived.Test.YtopkmliapnalkaaPFnTermTurnsx6
namespace Go.Proofs.Ytopkmliapnalkaa.PFnTermTurns
open Go.RowKit Go.Proofs.YtopkmliapnalkaaW.PrintWords Go.Proofs.YtopkmliapnalkaaW.PrintLast Go.Proofs.YtopkmliapnalkaaW.PrintMore
attribute [local go_sem] max2_int min2_int max_two min_two max_three min_three max_four min_four   -- for this text's walks alone
set_option linter.unusedVariables false
set_option linter.unusedSimpArgs false

/-! ### impl_takeTerm: function 30, by hand -/
def impl_takeTerm.way (c : Int) : Int := if c = 101 then 0 else if c = 110 then 1 else if c = 119 then 2 else if c = 115 then 3 else -1
def impl_takeTerm.cut (c : Int) (l : ByteArray) : ByteArray × Bool := if 0 < l.size ∧ bt l 0 = c then (l.extract 1 l.size, true) else (l, false)
def impl_takeTerm.g : Nat → ByteArray → Int × List S37 × ByteArray × Bool
  | 0, s => (0, [], s, false)
  | k + 1, s =>
    if s.size = 0 then (0, [], s, false)
    else if bt s 0 = 101 ∨ bt s 0 = 110 ∨ bt s 0 = 119 ∨ bt s 0 = 115 then (bt s 0, [], s.extract 1 s.size, true)
    else if bt s 0 = 45 ∨ bt s 0 = 64 ∨ (50 ≤ bt s 0 ∧ bt s 0 ≤ 57) then
      (bt s 0, [⟨(impl_takeTerm.g k (s.extract 1 s.size)).1, (impl_takeTerm.g k (s.extract 1 s.size)).2.1⟩], (impl_takeTerm.g k (s.extract 1 s.size)).2.2.1, (impl_takeTerm.g k (s.extract 1 s.size)).2.2.2)
    else if bt s 0 ≠ 40 then (bt s 0, [], s.extract 1 s.size, false)
    else if (impl_takeTerm.g k (s.extract 1 s.size)).2.2.2 = false ∨ (impl_takeTerm.cut 43 (impl_takeTerm.g k (s.extract 1 s.size)).2.2.1).2 = false then (bt s 0, [], s.extract 1 s.size, false)
    else
      (bt s 0, [⟨(impl_takeTerm.g k (s.extract 1 s.size)).1, (impl_takeTerm.g k (s.extract 1 s.size)).2.1⟩, ⟨(impl_takeTerm.g k (impl_takeTerm.cut 43 (impl_takeTerm.g k (s.extract 1 s.size)).2.2.1).1).1, (impl_takeTerm.g k (impl_takeTerm.cut 43 (impl_takeTerm.g k (s.extract 1 s.size)).2.2.1).1).2.1⟩],
        (impl_takeTerm.cut 41 (impl_takeTerm.g k (impl_takeTerm.cut 43 (impl_takeTerm.g k (s.extract 1 s.size)).2.2.1).1).2.2.1).1,
        (impl_takeTerm.g k (impl_takeTerm.cut 43 (impl_takeTerm.g k (s.extract 1 s.size)).2.2.1).1).2.2.2 && (impl_takeTerm.cut 41 (impl_takeTerm.g k (impl_takeTerm.cut 43 (impl_takeTerm.g k (s.extract 1 s.size)).2.2.1).1).2.2.1).2)
def impl_takeTerm.f (a0 : ByteArray) : Option (Int × List S37 × ByteArray × Bool) :=
  if a0.size ≤ 60 then some (impl_takeTerm.g (a0.size + 1) a0) else none
theorem impl_takeTerm.way_is (c : Int) (h0 : 0 ≤ c) (h1 : c ≤ 255) : impl_wayOf.f c = some (impl_takeTerm.way c) := by
  have key : ∀ n : Nat, n < 256 → impl_wayOf.f (n : Int) = some (impl_takeTerm.way n) := by decide +kernel
  have := key c.toNat (by omega)
  rwa [Int.toNat_of_nonneg h0] at this
theorem impl_takeTerm.pre_is (c : UInt8) (l : ByteArray) : stringslite_HasPrefix.f l ⟨#[c]⟩ = some (decide (0 < l.size ∧ bt l 0 = (c.toNat : Int))) := by
  have hs : (⟨#[c]⟩ : ByteArray).size = 1 := rfl
  have hl : (⟨#[c]⟩ : ByteArray).toList = [c] := by rw [Lib.toList_data]
  unfold stringslite_HasPrefix.f
  simp only [hs, hl]
  by_cases h : 0 < l.size
  · have e : ((l.extract 0 (((1 : Nat) : Int)).toNat).toList == [c]) = decide (bt l 0 = (c.toNat : Int)) := by
      rw [Lib.extract_toList]
      have hn : 0 < l.data.toList.length := by rw [data_length]; exact h
      obtain ⟨x, r, hx⟩ : ∃ x r, l.data.toList = x :: r := List.exists_cons_of_length_pos hn
      have h0 : l[0] = l.data.toList[0] := rfl
      have hb : bt l 0 = (l[0].toNat : Int) := by unfold bt; rw [dif_pos (by simpa using h)]; rfl
      rw [hb, h0, Bool.eq_iff_iff]
      simp only [hx]
      simp
      constructor
      · intro hh; rw [hh]
      · intro hh; exact UInt8.toNat_inj.mp (by omega)
    rw [if_pos (show (l.size : Int) ≥ ((1 : Nat) : Int) by omega), if_pos (show (0 : Int) ≤ ((1 : Nat) : Int) by omega), if_pos (show ((1 : Nat) : Int) ≤ (l.size : Int) by omega), e]
    simp [h]
  · rw [if_neg (show ¬ (l.size : Int) ≥ ((1 : Nat) : Int) by omega)]
    simp [h]
theorem impl_takeTerm.cut_is (c : UInt8) (l : ByteArray) : strings_CutPrefix.f l ⟨#[c]⟩ = some (impl_takeTerm.cut c.toNat l) := by
  have hs : (⟨#[c]⟩ : ByteArray).size = 1 := rfl
  unfold strings_CutPrefix.f stringslite_CutPrefix.f impl_takeTerm.cut
  rw [impl_takeTerm.pre_is]
  simp only [hs, Option.bind_some]
  by_cases h : 0 < l.size ∧ bt l 0 = (c.toNat : Int)
  · rw [if_pos h, if_pos (decide_eq_true h), if_pos (show (0 : Int) ≤ ((1 : Nat) : Int) by omega), if_pos (show ((1 : Nat) : Int) ≤ (l.size : Int) by omega)]
    rfl
  · rw [if_neg h, if_neg (by simp only [decide_eq_false h]; decide)]
    rfl
def impl_takeTerm.Post (r : Int × List S37 × ByteArray × Bool) (w : World) (e : Ending) (w' : World) : Prop :=
  ∃ v1_ : Value, e = .returned (.tuple #[.agg #[.int .u8 r.1, v1_], .string r.2.2.1, .bool r.2.2.2]) ∧ Kd.R k37 37 w' w.heap.size (fun _ => True) v1_ r.2.1 ∧ Below w.heap.size w w'
theorem impl_takeTerm.heap_new {W : World} {o : Obj} {g : Nat} (h : g = W.heap.size) : (W.alloc o).heap[g]? = some o := by
  subst h
  exact heap_alloc_new W o
theorem impl_takeTerm.row_one {w : World} {base : Nat} {c : Int} {v : Value} {kids : List S37} {ok : Nat → Prop} (hk : Kd.R k37 37 w base ok v kids) : k37.M w base ok ⟨c, kids⟩ [.int .u8 c, v] :=
  k37_mkM w base ok _ hk
theorem impl_takeTerm.row_two {w : World} {g base : Nat} {c d : Int} {v u : Value} {kids more : List S37} (h : w.heap[g]? = some (.cells #[.int .u8 c, v, .int .u8 d, u] 37 (0, 0))) (hb : base ≤ g)
    (hk : Kd.R k37 37 w base (fun k => k ≠ g) v kids) (hm : Kd.R k37 37 w base (fun k => k ≠ g) u more) :
    Kd.R k37 37 w base (fun _ => True) (.slice (some ⟨g, 0, none⟩) 2 2) [⟨c, kids⟩, ⟨d, more⟩] := by
  refine ⟨fun _ _ => trivial, [.int .u8 c, v, .int .u8 d, u], ⟨rfl, Or.inr ⟨g, 2, #[.int .u8 c, v, .int .u8 d, u], rfl, hb, h, Nat.le_refl _, by decide, rfl, rfl⟩⟩, rfl, fun j q hq => ?_⟩
  match j, hq with
  | 0, hq =>
    injection hq with hq
    subst hq
    exact k37_mkM w base _ _ (Kd.R_mono hk (fun k hk => ⟨trivial, fun he => hk (by simpa [Value.ownBlock] using he)⟩))
  | 1, hq =>
    injection hq with hq
    subst hq
    exact k37_mkM w base _ _ (Kd.R_mono hm (fun k hk => ⟨trivial, fun he => hk (by simpa [Value.ownBlock] using he)⟩))
  | j + 2, hq => simp at hq
theorem impl_takeTerm.kids_move {w1 W2 : World} {B base g : Nat} {v : Value} {xs : List S37} (h : Kd.R k37 37 w1 B (fun _ => True) v xs) (hb : base ≤ B) (hm : ∀ k, B ≤ k → k < w1.heap.size → W2.heap[k]? = w1.heap[k]?) (hg : w1.heap.size ≤ g) :
    Kd.R k37 37 W2 base (fun k => k ≠ g) v xs :=
  Kd.R_mono (Kd.R_step (Kd.R_lower (Kd.R_bound h) hb) (fun k hk hlt => hm k hk.2.1 hlt)) (fun k hk => by have := hk.2.2.1; omega)
theorem impl_takeTerm.full {a0 : ByteArray} (h0 : 0 < a0.size) : a0.toList.isEmpty = false := by
  rw [Lib.toList_data]
  have := data_length a0
  cases h : a0.data.toList with
  | nil => rw [h] at this; simp at this; omega
  | cons x r => rfl
set_option maxHeartbeats 1000000 in
set_option maxRecDepth 100000 in
theorem impl_takeTerm.at_end (a0 : ByteArray) (w : World) (h1 : a0.toList = []) :
    Calls Try.prog 30 #[.string a0] w (impl_takeTerm.Post (0, [], a0, false) w) := by
  have hu34 := Try.underlying37
  have hd : a0.toList.isEmpty = true := by rw [h1]; rfl
  clear h1
  go_enter Try.func30, Try.ntmps30
  go_wp2_with fail
  refine bodyPost_ret (results_ctt rfl _ _ w.heap.size 37 #[.int .u8 0, .slice none 0 0] (0, 0) _ rfl (by repeat (first | (refine impl_takeTerm.heap_new ?_; simp; done) | refine blk_alloc ?_ _)) Try.underlying37 rfl (by kernel_rfl)) rfl ?_
  exact ⟨_, rfl, Kd.R_nil _ _ _ _ _, below_alloc (Below.refl _ _) _⟩
set_option maxHeartbeats 1000000 in
set_option maxRecDepth 100000 in
theorem impl_takeTerm.at_leaf (a0 : ByteArray) (w : World) (hs : a0.size ≤ 60) (h0 : 0 < a0.size) (c : Int) (hb : ∀ h : 0 < a0.size, ((a0[0]'h).toNat : Int) = c) (u : Int) (hw : impl_wayOf.f c = some u) (hu : decide (0 ≤ u) = true) :
    Calls Try.prog 30 #[.string a0] w (impl_takeTerm.Post (c, [], a0.extract 1 a0.size, true) w) := by
  have hu34 := Try.underlying37
  have hd : a0.toList.isEmpty = false := impl_takeTerm.full h0
  have HW := Lib.hid hw
  clear hw
  go_enter Try.func30, Try.ntmps30
  go_wp2_with (go_at_call 12; refine (impl_wayOf.calls _ _ _ HW.out).mono ?_; rintro e w1 ⟨rfl, ⟨⟨n, rfl⟩⟩⟩)
  refine bodyPost_ret (results_ctt rfl _ _ w.heap.size 37 #[.int .u8 c, .slice none 0 0] (0, 0) _ rfl (blk_put (blk_put (cs := #[.int .u8 0, .slice none 0 0]) (by repeat (first | (refine impl_takeTerm.heap_new ?_; simp; done) | refine blk_alloc ?_ _ | refine blk_drewN ?_ _ | refine blk_drew ?_)) 0 _ rfl) 1 _ rfl) Try.underlying37 rfl (by kernel_rfl)) rfl ?_
  exact ⟨_, rfl, Kd.R_nil _ _ _ _ _, by repeat (first | exact Below.refl _ _ | apply below_alloc | apply pw_below_drewN | apply below_drew1 | refine below_set ?_ (Nat.le_refl _))⟩
set_option maxHeartbeats 1000000 in
set_option maxRecDepth 100000 in
theorem impl_takeTerm.at_one' (a0 : ByteArray) (w : World) (hs : a0.size ≤ 60) (h0 : 0 < a0.size) (c : Int) (hb : ∀ h : 0 < a0.size, ((a0[0]'h).toNat : Int) = c) (u : Int) (hw : impl_wayOf.f c = some u) (hu : decide (0 ≤ u) = false)
    (e5 : (c == 45) = true ∨ ((c == 45) = false ∧ (c == 64) = true) ∨ ((c == 45) = false ∧ (c == 64) = false ∧ decide (50 ≤ c) = true ∧ decide (c ≤ 57) = true)) (t : Int × List S37 × ByteArray × Bool)
    (ih : ∀ w, Calls Try.prog 30 #[.string (a0.extract 1 a0.size)] w (impl_takeTerm.Post t w)) :
    Calls Try.prog 30 #[.string a0] w (impl_takeTerm.Post (c, [⟨t.1, t.2.1⟩], t.2.2.1, t.2.2.2) w) := by
  have hu34 := Try.underlying37
  have hd : a0.toList.isEmpty = false := impl_takeTerm.full h0
  have HW := Lib.hid hw
  have IH := Lib.hid ih
  clear hw ih
  rcases e5 with e5 | ⟨e5, e6⟩ | ⟨e5, e6, e7, e8⟩
  all_goals
    go_enter Try.func30, Try.ntmps30
    go_wp2_with (go_at_call 12; refine (impl_wayOf.calls _ _ _ HW.out).mono ?_; rintro e w1 ⟨rfl, ⟨⟨n, rfl⟩⟩⟩)
    refine (IH.out _).mono ?_
    rintro e w1 ⟨v1, rfl, hR1, hB1⟩
    have HB := Lib.hid (blk_below (g := w.heap.size) (o := .cells #[.int .u8 0, .slice none 0 0] 37) (by repeat (first | (refine impl_takeTerm.heap_new ?_; simp; done) | refine blk_alloc ?_ _ | refine blk_drewN ?_ _)) hB1)
    have HT := Lib.hid (blk_below (g := w.heap.size + 1) (o := .cells #[.int .u8 c, .slice none 0 0] 37) (by repeat (first | (refine impl_takeTerm.heap_new ?_; simp; done) | refine blk_alloc ?_ _ | refine blk_drewN ?_ _)) hB1)
    have hz : w.heap.size < w1.heap.size := blk_lt HB.out
    have hz1 : w.heap.size + 1 < w1.heap.size := blk_lt HT.out
    have t1 : w1.cell? ⟨w.heap.size + 1, 1, none⟩ = some (.slice none 0 0) := blk_cell HT.out 1
    obtain ⟨A1, k1, rfl⟩ := Kd.R_slice hR1
    have HR := Lib.hid hR1
    have B0 := Lib.hid (show Below w.heap.size w w1 from below_then (B := w.heap.size) (by repeat (first | exact Below.refl _ _ | apply below_alloc | apply pw_below_drewN | apply below_drew1)) (by simp; omega) hB1)
    clear hR1 hB1
    have hr2 : w1.frozen? ⟨w.heap.size + 1, 1, none⟩ = false := blk_frozen HT.out 1
    go_wp2_with (at_builtin; refine Kd.R_append k37 (w0 := w) w.heap.size rfl (.tmp 58) (.tmp 60) 35 37 (.agg #[.int .u8 0, .slice none 0 0]) 32 rfl Try.underlying35 info37 rfl (by decide) (by decide) (.slice none 0 0) [] ⟨t.1, t.2.1⟩ [.int .u8 t.1, .slice A1 t.2.1.length k1] (fun k => k ≠ w.heap.size ∧ k ≠ w.heap.size + 1) (fun k => w.heap.size + 1 + 1 ≤ k) rfl ?hx ?hp ?hokp ?hfresh (Kd.R_nil _ _ _ _ _) ?hBB ?hbase (by decide) ?_; (case hx => (show Value.slice (some ⟨w1.heap.size + 1, 0, none⟩) 1 1 = _; simp)); (case hp => exact k37_mkM _ _ _ _ (Kd.R_mono (Kd.R_step (Kd.R_lower (Kd.R_bound HR.out) (by simp; omega)) (fun k hk hlt => Below.heap_alloc _ _ _ hlt)) (fun k hk => by have := hk.2.1; simp at this; omega))); (case hokp => (intro k hk; exact ⟨⟨by omega, by omega⟩, by simp [Value.ownBlock]⟩)); (case hfresh => (intro k hk; simp at hk; exact ⟨by omega, by omega⟩)); (case hBB => exact below_alloc B0.out _); (case hbase => (simp; omega)); intro v2 w2 hR2 hB2 hg2 hat2; obtain ⟨A2, k2, rfl⟩ := Kd.R_slice hR2; have HR2 := Lib.hid hR2; have HB2 := Lib.hid (blk_grown (blk_alloc HB.out _) hg2 (by simp [Value.ownBlock])); have HT2 := Lib.hid (blk_grown (blk_alloc HT.out _) hg2 (by simp [Value.ownBlock])); have BB2 := Lib.hid hB2; have p0 := blk_cell HB2.out 0; have p1 := blk_cell HB2.out 1; have p2 := blk_cell HT2.out 0; have p3 := blk_cell HT2.out 1; have q0 := blk_frozen HB2.out 0; have q1 := blk_frozen HB2.out 1; have q2 := blk_frozen HT2.out 1; simp only [List.getElem?_toArray, List.getElem?_cons_zero, List.getElem?_cons_succ] at p0 p1 p2 p3; clear hR2 hB2 hg2 hat2)
    refine bodyPost_ret (results_ctt rfl _ _ w.heap.size 37 #[.int .u8 c, .slice A2 1 k2] (0, 0) _ rfl (blk_put (blk_put (blk_far HB2.out (by simp) _) 0 _ rfl) 1 _ rfl) Try.underlying37 rfl (by kernel_rfl)) rfl ?_
    exact ⟨_, rfl, Kd.R_mono (Kd.R_far (p := ⟨w.heap.size, 1, none⟩) (Kd.R_far (p := ⟨w.heap.size, 0, none⟩) (Kd.R_far (p := ⟨w.heap.size + 1, 1, none⟩) HR2.out (fun k hk => hk.2) _) (fun k hk => hk.1) _) (fun k hk => hk.1) _) (fun _ _ => trivial), below_set (below_set (below_set BB2.out (by omega)) (Nat.le_refl _)) (Nat.le_refl _)⟩
set_option maxHeartbeats 1000000 in
set_option maxRecDepth 100000 in
theorem impl_takeTerm.at_not (a0 : ByteArray) (w : World) (hs : a0.size ≤ 60) (h0 : 0 < a0.size) (c : Int) (hb : ∀ h : 0 < a0.size, ((a0[0]'h).toNat : Int) = c) (u : Int) (hw : impl_wayOf.f c = some u) (hu : decide (0 ≤ u) = false)
    (e5 : (c == 45) = false) (e6 : (c == 64) = false) (e7 : decide (50 ≤ c) = false ∨ (decide (50 ≤ c) = true ∧ decide (c ≤ 57) = false)) (e8 : (c != 40) = true) :
    Calls Try.prog 30 #[.string a0] w (impl_takeTerm.Post (c, [], a0.extract 1 a0.size, false) w) := by
  have hu34 := Try.underlying37
  have hd : a0.toList.isEmpty = false := impl_takeTerm.full h0
  have HW := Lib.hid hw
  clear hw
  rcases e7 with e7 | ⟨e7, e9⟩
  all_goals
    go_enter Try.func30, Try.ntmps30
    go_wp2_with (go_at_call 12; refine (impl_wayOf.calls _ _ _ HW.out).mono ?_; rintro e w1 ⟨rfl, ⟨⟨n, rfl⟩⟩⟩)
    refine bodyPost_ret (results_ctt rfl _ _ w.heap.size 37 #[.int .u8 c, .slice none 0 0] (0, 0) _ rfl (blk_put (blk_put (cs := #[.int .u8 0, .slice none 0 0]) (by repeat (first | (refine impl_takeTerm.heap_new ?_; simp; done) | refine blk_alloc ?_ _ | refine blk_drewN ?_ _ | refine blk_drew ?_)) 0 _ rfl) 1 _ rfl) Try.underlying37 rfl (by kernel_rfl)) rfl ?_
    exact ⟨_, rfl, Kd.R_nil _ _ _ _ _, by repeat (first | exact Below.refl _ _ | apply below_alloc | apply pw_below_drewN | apply below_drew1 | refine below_set ?_ (Nat.le_refl _))⟩
set_option maxHeartbeats 1000000 in
set_option maxRecDepth 100000 in
/-- '(' and no first term, or no '+' behind it. -/
theorem impl_takeTerm.at_mid (a0 : ByteArray) (w : World) (hs : a0.size ≤ 60) (h0 : 0 < a0.size) (c : Int) (hb : ∀ h : 0 < a0.size, ((a0[0]'h).toNat : Int) = c) (u : Int) (hw : impl_wayOf.f c = some u) (hu : decide (0 ≤ u) = false)
    (e5 : (c == 45) = false) (e6 : (c == 64) = false) (e7 : decide (50 ≤ c) = false) (e8 : (c != 40) = false) (t1 : Int) (t2 : List S37) (t3 : ByteArray) (t4 : Bool)
    (ih : ∀ w, Calls Try.prog 30 #[.string (a0.extract 1 a0.size)] w (impl_takeTerm.Post (t1, t2, t3, t4) w)) (l1 : ByteArray) (q1 : Bool) (hq : strings_CutPrefix.f t3 ⟨#[43]⟩ = some (l1, q1)) (hn : t4 = false ∨ (t4 = true ∧ q1 = false)) :
    Calls Try.prog 30 #[.string a0] w (impl_takeTerm.Post (c, [], a0.extract 1 a0.size, false) w) := by
  have hu34 := Try.underlying37
  have hd : a0.toList.isEmpty = false := impl_takeTerm.full h0
  have HW := Lib.hid hw
  have IH := Lib.hid ih
  have HQ := Lib.hid hq
  clear hw ih hq
  rcases hn with rfl | ⟨rfl, rfl⟩
  all_goals
    go_enter Try.func30, Try.ntmps30
    go_wp2_with (go_at_call 12; refine (impl_wayOf.calls _ _ _ HW.out).mono ?_; rintro e w1 ⟨rfl, ⟨⟨n, rfl⟩⟩⟩)
    refine (IH.out _).mono ?_
    rintro e w1 ⟨v1, rfl, hR1, hB1⟩
    have HB := Lib.hid (blk_below (g := w.heap.size) (o := .cells #[.int .u8 0, .slice none 0 0] 37) (by repeat (first | (refine impl_takeTerm.heap_new ?_; simp; done) | refine blk_alloc ?_ _ | refine blk_drewN ?_ _)) hB1)
    have HT := Lib.hid (blk_below (g := w.heap.size + 1) (o := .cells #[.int .u8 c, .slice none 0 0] 37) (by repeat (first | (refine impl_takeTerm.heap_new ?_; simp; done) | refine blk_alloc ?_ _ | refine blk_drewN ?_ _)) hB1)
    have B0 := Lib.hid (show Below w.heap.size w w1 from below_then (B := w.heap.size) (by repeat (first | exact Below.refl _ _ | apply below_alloc | apply pw_below_drewN | apply below_drew1)) (by simp; omega) hB1)
    have hz : w.heap.size < w1.heap.size := blk_lt HB.out
    have hz1 : w.heap.size + 1 < w1.heap.size := blk_lt HT.out
    have p0 : w1.cell? ⟨w.heap.size, 0, none⟩ = some (.int .u8 0) := blk_cell HB.out 0
    have p1 : w1.cell? ⟨w.heap.size, 1, none⟩ = some (.slice none 0 0) := blk_cell HB.out 1
    have p2 : w1.cell? ⟨w.heap.size + 1, 0, none⟩ = some (.int .u8 c) := blk_cell HT.out 0
    have p3 : w1.cell? ⟨w.heap.size + 1, 1, none⟩ = some (.slice none 0 0) := blk_cell HT.out 1
    have q2 : w1.frozen? ⟨w.heap.size, 0, none⟩ = false := blk_frozen HB.out 0
    have q3 : w1.frozen? ⟨w.heap.size, 1, none⟩ = false := blk_frozen HB.out 1
    obtain ⟨A1, k1, rfl⟩ := Kd.R_slice hR1
    clear hR1 hB1
    go_wp2_with (go_at_call 39; refine (strings_CutPrefix.calls _ _ _ _ _ HQ.out).mono ?_; rintro e w2 ⟨rfl, ⟨⟨m, rfl⟩⟩⟩)
    refine bodyPost_ret (results_ctt rfl _ _ w.heap.size 37 #[.int .u8 c, .slice none 0 0] (0, 0) _ rfl (blk_put (blk_put (blk_drewN (blk_alloc HB.out _) _) 0 _ rfl) 1 _ rfl) Try.underlying37 rfl (by kernel_rfl)) rfl ?_
    exact ⟨_, rfl, Kd.R_nil _ _ _ _ _, by repeat (first | exact B0.out | apply below_alloc | apply pw_below_drewN | apply below_drew1 | refine below_set ?_ (Nat.le_refl _))⟩
set_option maxHeartbeats 2000000 in
set_option maxRecDepth 100000 in
/-- '(', a term, '+', and whatever stands behind it. -/
theorem impl_takeTerm.at_two (a0 : ByteArray) (w : World) (hs : a0.size ≤ 60) (h0 : 0 < a0.size) (c : Int) (hb : ∀ h : 0 < a0.size, ((a0[0]'h).toNat : Int) = c) (u : Int) (hw : impl_wayOf.f c = some u) (hu : decide (0 ≤ u) = false)
    (e5 : (c == 45) = false) (e6 : (c == 64) = false) (e7 : decide (50 ≤ c) = false) (e8 : (c != 40) = false) (t1 : Int) (t2 : List S37) (t3 : ByteArray)
    (ih : ∀ w, Calls Try.prog 30 #[.string (a0.extract 1 a0.size)] w (impl_takeTerm.Post (t1, t2, t3, true) w)) (l1 : ByteArray) (hq : strings_CutPrefix.f t3 ⟨#[43]⟩ = some (l1, true))
    (u1 : Int) (u2 : List S37) (u3 : ByteArray) (u4 : Bool) (ih2 : ∀ w, Calls Try.prog 30 #[.string l1] w (impl_takeTerm.Post (u1, u2, u3, u4) w)) (l2 : ByteArray) (q2 : Bool) (hq2 : strings_CutPrefix.f u3 ⟨#[41]⟩ = some (l2, q2)) :
    Calls Try.prog 30 #[.string a0] w (impl_takeTerm.Post (c, [⟨t1, t2⟩, ⟨u1, u2⟩], l2, u4 && q2) w) := by
  have hu34 := Try.underlying37
  have hd : a0.toList.isEmpty = false := impl_takeTerm.full h0
  have HW := Lib.hid hw
  have IH := Lib.hid ih
  have IH2 := Lib.hid ih2
  have HQ := Lib.hid hq
  have HQ2 := Lib.hid hq2
  clear hw ih hq ih2 hq2
  cases u4
  all_goals
    go_enter Try.func30, Try.ntmps30
    go_wp2_with (go_at_call 12; refine (impl_wayOf.calls _ _ _ HW.out).mono ?_; rintro e w1 ⟨rfl, ⟨⟨n, rfl⟩⟩⟩)
    refine (IH.out _).mono ?_
    rintro e w1 ⟨v1, rfl, hR1, hB1⟩
    have HB := Lib.hid (blk_below (g := w.heap.size) (o := .cells #[.int .u8 0, .slice none 0 0] 37) (by repeat (first | (refine impl_takeTerm.heap_new ?_; simp; done) | refine blk_alloc ?_ _ | refine blk_drewN ?_ _)) hB1)
    have HT := Lib.hid (blk_below (g := w.heap.size + 1) (o := .cells #[.int .u8 c, .slice none 0 0] 37) (by repeat (first | (refine impl_takeTerm.heap_new ?_; simp; done) | refine blk_alloc ?_ _ | refine blk_drewN ?_ _)) hB1)
    have B0 := Lib.hid (show Below w.heap.size w w1 from below_then (B := w.heap.size) (by repeat (first | exact Below.refl _ _ | apply below_alloc | apply pw_below_drewN | apply below_drew1)) (by simp; omega) hB1)
    have hz : w.heap.size < w1.heap.size := blk_lt HB.out
    have hz1 : w.heap.size + 1 < w1.heap.size := blk_lt HT.out
    obtain ⟨A1, k1, rfl⟩ := Kd.R_slice hR1
    have HR1 := Lib.hid hR1
    clear hR1 hB1
    go_wp2_with (go_at_call 39; refine (strings_CutPrefix.calls _ _ _ _ _ HQ.out).mono ?_; rintro e w2 ⟨rfl, ⟨⟨m, rfl⟩⟩⟩)
    refine (IH2.out _).mono ?_
    rintro e w2 ⟨v2, rfl, hR2, hB2⟩
    have HB2 := Lib.hid (blk_below (blk_drewN (blk_alloc HB.out _) _) hB2)
    have HT2 := Lib.hid (blk_below (blk_drewN (blk_alloc HT.out _) _) hB2)
    have HK := Lib.hid (blk_below (blk_drewN (heap_alloc_new w1 (.cells #[.int .u8 t1, .slice A1 t2.length k1] 37)) _) hB2)
    have HW2 := Lib.hid hB2
    have B2 := Lib.hid (below_then (B := w.heap.size) (pw_below_drewN (below_alloc B0.out _) _) (by simp; omega) hB2)
    have hz2 : w.heap.size < w2.heap.size := blk_lt HB2.out
    have hz3 : w.heap.size + 1 < w2.heap.size := blk_lt HT2.out
    have hz4 : w1.heap.size < w2.heap.size := blk_lt HK.out
    have p0 : w2.cell? ⟨w.heap.size, 0, none⟩ = some (.int .u8 0) := blk_cell HB2.out 0
    have p1 : w2.cell? ⟨w.heap.size, 1, none⟩ = some (.slice none 0 0) := blk_cell HB2.out 1
    have p2 : w2.cell? ⟨w.heap.size + 1, 0, none⟩ = some (.int .u8 c) := blk_cell HT2.out 0
    have p3 : w2.cell? ⟨w.heap.size + 1, 1, none⟩ = some (.slice none 0 0) := blk_cell HT2.out 1
    have p4 : w2.cell? ⟨w1.heap.size, 0, none⟩ = some (.int .u8 t1) := blk_cell HK.out 0
    have p5 : w2.cell? ⟨w1.heap.size, 1, none⟩ = some (.slice A1 t2.length k1) := blk_cell HK.out 1
    have r2 : w2.frozen? ⟨w.heap.size, 0, none⟩ = false := blk_frozen HB2.out 0
    have r3 : w2.frozen? ⟨w.heap.size, 1, none⟩ = false := blk_frozen HB2.out 1
    have r4 : w2.frozen? ⟨w.heap.size + 1, 1, none⟩ = false := blk_frozen HT2.out 1
    obtain ⟨A2, k2, rfl⟩ := Kd.R_slice hR2
    have HR2 := Lib.hid hR2
    clear hR2 hB2
    go_wp2_with (go_at_call 39; refine (strings_CutPrefix.calls _ _ _ _ _ HQ2.out).mono ?_; rintro e w3 ⟨rfl, ⟨⟨m2, rfl⟩⟩⟩)
    refine bodyPost_ret (results_ctt rfl _ _ w.heap.size 37 #[.int .u8 c, .slice (some ⟨w2.heap.size + 1, 0, none⟩) 2 2] (0, 0) _ rfl (blk_alloc (blk_put (blk_put (blk_far (blk_drewN (blk_alloc HB2.out _) _) (by simp) _) 0 _ rfl) 1 _ rfl) _) Try.underlying37 rfl (by kernel_rfl)) rfl ?_
    refine ⟨_, rfl, impl_takeTerm.row_two (v := .slice A1 t2.length k1) (u := .slice A2 u2.length k2) ?_ (by omega) (impl_takeTerm.kids_move HR1.out (by simp; omega) (fun k hk hlt => ?_) (by omega)) (impl_takeTerm.kids_move HR2.out (by simp; omega) (fun k hk hlt => ?_) (by omega)), ?_⟩
    · repeat (first | (refine impl_takeTerm.heap_new ?_; simp; done) | refine blk_alloc ?_ _)
    · simp at hk
      rw [Below.heap_alloc _ _ _ (by simp; omega), Below.heap_setCell _ _ _ _ (by simp; omega), Below.heap_setCell _ _ _ _ (by simp; omega), Below.heap_setCell _ _ _ _ (by simp; omega)]
      refine (Below.heap_alloc w2 _ k (by omega)).trans ((HW2.out.block k (by simp; omega)).trans (Below.heap_alloc w1 _ k (by omega)))
    · simp at hk
      rw [Below.heap_alloc _ _ _ (by simp; omega), Below.heap_setCell _ _ _ _ (by simp; omega), Below.heap_setCell _ _ _ _ (by simp; omega), Below.heap_setCell _ _ _ _ (by simp; omega)]
      exact Below.heap_alloc w2 _ k (by omega)
    · exact below_alloc (below_set (below_set (below_set (pw_below_drewN (below_alloc B2.out _) _) (by omega)) (Nat.le_refl _)) (Nat.le_refl _)) _
theorem impl_takeTerm.g_size : ∀ (k : Nat) (s : ByteArray), (impl_takeTerm.g k s).2.2.1.size ≤ s.size ∧ ((impl_takeTerm.g k s).2.2.2 = true → (impl_takeTerm.g k s).2.2.1.size < s.size) := by
  intro k
  have hcut : ∀ c l, (impl_takeTerm.cut c l).1.size ≤ l.size ∧ ((impl_takeTerm.cut c l).2 = true → (impl_takeTerm.cut c l).1.size < l.size) := by
    intro c l
    unfold impl_takeTerm.cut
    split
    · next h => simp only [ByteArray.size_extract]; omega
    · exact ⟨Nat.le_refl _, fun h => by simp at h⟩
  induction k with
  | zero => intro s; exact ⟨Nat.le_refl _, fun h => by simp [impl_takeTerm.g] at h⟩
  | succ k ih =>
    intro s
    have h1 := ih (s.extract 1 s.size)
    have h2 := hcut 43 (impl_takeTerm.g k (s.extract 1 s.size)).2.2.1
    have h3 := ih (impl_takeTerm.cut 43 (impl_takeTerm.g k (s.extract 1 s.size)).2.2.1).1
    have h4 := hcut 41 (impl_takeTerm.g k (impl_takeTerm.cut 43 (impl_takeTerm.g k (s.extract 1 s.size)).2.2.1).1).2.2.1
    have hx : (s.extract 1 s.size).size = s.size - 1 := by simp only [ByteArray.size_extract]; omega
    unfold impl_takeTerm.g
    split
    · exact ⟨Nat.le_refl _, fun h => by simp at h⟩
    · split
      · simp only [hx]; omega
      · split
        · simp only []
          refine ⟨by omega, fun h => ?_⟩
          have := h1.2 h
          omega
        · split
          · simp only [hx]; exact ⟨by omega, fun h => by simp at h⟩
          · split
            · simp only [hx]; exact ⟨by omega, fun h => by simp at h⟩
            · simp only [Bool.and_eq_true]
              refine ⟨by omega, fun h => ?_⟩
              have := h4.2 h.2
              omega
theorem impl_takeTerm.g_succ (k : Nat) (s : ByteArray) : impl_takeTerm.g (k + 1) s =
    if s.size = 0 then (0, [], s, false)
    else if bt s 0 = 101 ∨ bt s 0 = 110 ∨ bt s 0 = 119 ∨ bt s 0 = 115 then (bt s 0, [], s.extract 1 s.size, true)
    else if bt s 0 = 45 ∨ bt s 0 = 64 ∨ (50 ≤ bt s 0 ∧ bt s 0 ≤ 57) then
      (bt s 0, [⟨(impl_takeTerm.g k (s.extract 1 s.size)).1, (impl_takeTerm.g k (s.extract 1 s.size)).2.1⟩], (impl_takeTerm.g k (s.extract 1 s.size)).2.2.1, (impl_takeTerm.g k (s.extract 1 s.size)).2.2.2)
    else if bt s 0 ≠ 40 then (bt s 0, [], s.extract 1 s.size, false)
    else if (impl_takeTerm.g k (s.extract 1 s.size)).2.2.2 = false ∨ (impl_takeTerm.cut 43 (impl_takeTerm.g k (s.extract 1 s.size)).2.2.1).2 = false then (bt s 0, [], s.extract 1 s.size, false)
    else
      (bt s 0, [⟨(impl_takeTerm.g k (s.extract 1 s.size)).1, (impl_takeTerm.g k (s.extract 1 s.size)).2.1⟩, ⟨(impl_takeTerm.g k (impl_takeTerm.cut 43 (impl_takeTerm.g k (s.extract 1 s.size)).2.2.1).1).1, (impl_takeTerm.g k (impl_takeTerm.cut 43 (impl_takeTerm.g k (s.extract 1 s.size)).2.2.1).1).2.1⟩],
        (impl_takeTerm.cut 41 (impl_takeTerm.g k (impl_takeTerm.cut 43 (impl_takeTerm.g k (s.extract 1 s.size)).2.2.1).1).2.2.1).1,
        (impl_takeTerm.g k (impl_takeTerm.cut 43 (impl_takeTerm.g k (s.extract 1 s.size)).2.2.1).1).2.2.2 && (impl_takeTerm.cut 41 (impl_takeTerm.g k (impl_takeTerm.cut 43 (impl_takeTerm.g k (s.extract 1 s.size)).2.2.1).1).2.2.1).2) := rfl
theorem impl_takeTerm.reads : ∀ (k : Nat) (s : ByteArray), s.size ≤ 60 → s.size < k → ∀ w, Calls Try.prog 30 #[.string s] w (impl_takeTerm.Post (impl_takeTerm.g k s) w) := by
  intro k
  induction k with
  | zero => intro s _ hk w; omega
  | succ k ih =>
    intro s hs hk w
    rw [impl_takeTerm.g_succ]
    by_cases h0 : s.size = 0
    · rw [if_pos h0]
      refine impl_takeTerm.at_end s w ?_
      rw [Lib.toList_data]
      have := data_length s
      exact List.eq_nil_of_length_eq_zero (by omega)
    · rw [if_neg h0]
      have h0' : 0 < s.size := by omega
      have hb : ∀ h : 0 < s.size, ((s[0]'h).toNat : Int) = bt s 0 := bt_at s 0
      have hr := bt_range s 0
      have hw := impl_takeTerm.way_is (bt s 0) hr.1 hr.2
      have hx : (s.extract 1 s.size).size = s.size - 1 := by simp only [ByteArray.size_extract]; omega
      have ih1 := ih (s.extract 1 s.size) (by omega) (by omega)
      by_cases hc : bt s 0 = 101 ∨ bt s 0 = 110 ∨ bt s 0 = 119 ∨ bt s 0 = 115
      · rw [if_pos hc]
        refine impl_takeTerm.at_leaf s w hs h0' (bt s 0) hb _ hw (decide_eq_true ?_)
        unfold impl_takeTerm.way
        rcases hc with hc | hc | hc | hc <;> rw [hc] <;> decide
      · rw [if_neg hc]
        have hu : decide (0 ≤ impl_takeTerm.way (bt s 0)) = false := by
          unfold impl_takeTerm.way
          rw [if_neg (by omega), if_neg (by omega), if_neg (by omega), if_neg (by omega)]
          rfl
        by_cases hd : bt s 0 = 45 ∨ bt s 0 = 64 ∨ (50 ≤ bt s 0 ∧ bt s 0 ≤ 57)
        · rw [if_pos hd]
          refine impl_takeTerm.at_one' s w hs h0' (bt s 0) hb _ hw hu ?_ (impl_takeTerm.g k (s.extract 1 s.size)) ih1
          by_cases q1 : bt s 0 = 45
          · exact .inl (by simp [q1])
          · by_cases q2 : bt s 0 = 64
            · exact .inr (.inl ⟨by simp [q1], by simp [q2]⟩)
            · exact .inr (.inr ⟨by simp [q1], by simp [q2], decide_eq_true (by omega), decide_eq_true (by omega)⟩)
        · rw [if_neg hd]
          by_cases he : bt s 0 ≠ 40
          · rw [if_pos he]
            refine impl_takeTerm.at_not s w hs h0' (bt s 0) hb _ hw hu (by simp; omega) (by simp; omega) ?_ (by simp [he])
            by_cases h5 : 50 ≤ bt s 0
            · exact .inr ⟨decide_eq_true h5, decide_eq_false (by omega)⟩
            · exact .inl (decide_eq_false h5)
          · rw [if_neg he]
            have hq := impl_takeTerm.cut_is 43 (impl_takeTerm.g k (s.extract 1 s.size)).2.2.1
            have e40 : (bt s 0 != 40) = false := by simp at he; simp [he]
            by_cases hf : (impl_takeTerm.g k (s.extract 1 s.size)).2.2.2 = false ∨ (impl_takeTerm.cut 43 (impl_takeTerm.g k (s.extract 1 s.size)).2.2.1).2 = false
            · rw [if_pos hf]
              refine impl_takeTerm.at_mid s w hs h0' (bt s 0) hb _ hw hu (by simp; omega) (by simp; omega) (decide_eq_false (by omega)) e40 (impl_takeTerm.g k (s.extract 1 s.size)).1 (impl_takeTerm.g k (s.extract 1 s.size)).2.1 (impl_takeTerm.g k (s.extract 1 s.size)).2.2.1 (impl_takeTerm.g k (s.extract 1 s.size)).2.2.2 ih1 _ _ hq ?_
              cases hg : (impl_takeTerm.g k (s.extract 1 s.size)).2.2.2 with
              | false => exact .inl rfl
              | true => rw [hg] at hf; exact .inr ⟨rfl, hf.resolve_left (by simp)⟩
            · rw [if_neg hf]
              have g1 : (impl_takeTerm.g k (s.extract 1 s.size)).2.2.2 = true := by simpa using fun h => hf (.inl h)
              have g2 : (impl_takeTerm.cut 43 (impl_takeTerm.g k (s.extract 1 s.size)).2.2.1).2 = true := by simpa using fun h => hf (.inr h)
              have hz1 := (impl_takeTerm.g_size k (s.extract 1 s.size)).1
              have hz2 : (impl_takeTerm.cut 43 (impl_takeTerm.g k (s.extract 1 s.size)).2.2.1).1.size ≤ (impl_takeTerm.g k (s.extract 1 s.size)).2.2.1.size := by
                unfold impl_takeTerm.cut
                split
                · simp only [ByteArray.size_extract]; omega
                · exact Nat.le_refl _
              refine impl_takeTerm.at_two s w hs h0' (bt s 0) hb _ hw hu (by simp; omega) (by simp; omega) (decide_eq_false (by omega)) e40 (impl_takeTerm.g k (s.extract 1 s.size)).1 (impl_takeTerm.g k (s.extract 1 s.size)).2.1 (impl_takeTerm.g k (s.extract 1 s.size)).2.2.1 ?_ (impl_takeTerm.cut 43 (impl_takeTerm.g k (s.extract 1 s.size)).2.2.1).1 ?_ _ _ _ _ (ih _ (by omega) (by omega)) _ _ (impl_takeTerm.cut_is 41 _)
              · rw [← g1]; exact ih1
              · rw [hq, ← g2]; rfl
theorem impl_takeTerm.calls (a0 : ByteArray) (r1 : Int) (r2 : List S37) (r3 : ByteArray) (r4 : Bool) (w : World) (h : impl_takeTerm.f a0 = some (r1, r2, r3, r4)) :
    Calls Try.prog 30 #[.string a0] w fun e w' => ∃ v1_ : Value, e = .returned (.tuple #[.agg #[.int .u8 r1, v1_], .string r3, .bool r4]) ∧ Kd.R k37 37 w' w.heap.size (fun _ => True) v1_ r2 ∧ Below w.heap.size w w' := by
  simp only [impl_takeTerm.f] at h
  split at h
  · next hs =>
    injection h with h
    have hh := impl_takeTerm.reads (a0.size + 1) a0 hs (by omega) w
    rw [h] at hh
    exact hh
  · simp at h

/-! ### impl_readTerm: function 22 -/
def impl_readTerm.f (a0 : ByteArray) : Option (Int × (List (S37)) × Bool) := if (a0.size : Int) > 60 then (some (0, ([] : List (S37)), false)) else ((impl_takeTerm.f a0).bind fun bt178 => (if bt178.2.2.2 = true then (some (bt178.1, bt178.2.1, (bt178.2.2.1.toList == ([] : List UInt8)))) else (some (bt178.1, bt178.2.1, false))))
set_option maxHeartbeats 8000000 in
set_option maxRecDepth 100000 in
theorem impl_readTerm.calls (a0 : ByteArray) (r1 : Int) (r2 : List (S37)) (r3 : Bool) (w : World) (h : impl_readTerm.f a0 = some (r1, r2, r3)) :
    Calls Try.prog 22 #[.string a0] w fun e w' => ∃ v1_ : Value, e = .returned (.tuple #[.agg #[.int .u8 r1, v1_], .bool r3]) ∧ Kd.R k37 37 w' w.heap.size (fun _ => True) v1_ r2 ∧ Below w.heap.size w w' := by
  have hu37 := Try.underlying37
  have HB := Aside0.mk (Below.refl w.heap.size w)
  have H : (if (a0.size : Int) > 60 then (some (0, ([] : List (S37)), false)) else ((impl_takeTerm.f a0).bind fun bt178 => (if bt178.2.2.2 = true then (some (bt178.1, bt178.2.1, (bt178.2.2.1.toList == ([] : List UInt8)))) else (some (bt178.1, bt178.2.1, false))))) = some (r1, r2, r3) := h
  clear h
  by_cases c2 : (a0.size : Int) > 60
  · rw [if_pos c2] at H
    have c2b0 : decide (60 < (a0.size : Int)) = true := decide_eq_true c2
    have c2b1 : decide (60 < a0.size) = true := decide_eq_true (by omega)
    clear c2
    simp only [Option.some.injEq, Prod.mk.injEq] at H
    obtain ⟨rfl, rfl, rfl⟩ := H
    go_enter Try.func22, Try.ntmps22
    go_wp2_with (first | ((with_reducible refine gate_dst (N := 2) rfl ?_); refine box_event ?hg (N := 2) ?hd (cs := #[.int .u8 0, .slice none 0 0]) (t := 37) ?hr ?_; (case hd => rfl); (case hg => rfl); (case hr => first | (go_simp; done) | (go_simp; rfl)); intro gb177 hg w3 hbox hb; have n0_ := Aside0.mk (below_step (by repeat (first | (with_reducible first | exact HB.out | apply below_alloc | apply pw_below_drewN | apply below_drew1) | exact HB.out)) hb); have n1_ := Aside0.mk (hbox); have n2_ := Aside0.mk ((by rw [hg]; exact (below_size (by repeat (first | (with_reducible first | exact HB.out | apply below_alloc | apply pw_below_drewN | apply below_drew1) | exact HB.out))) : w.heap.size ≤ gb177)); have n3_ := Aside0.mk ((by rw [hg]; exact (below_size (by repeat (first | (with_reducible first | exact HB.out | apply below_alloc | apply pw_below_drewN | apply below_drew1) | exact HB.out))) : w.heap.size ≤ gb177)); clear HB; have HB := n0_; have BK177 := n1_; have GW177 := n2_; have GE177 := n3_; clear n0_ n1_ n2_ n3_; clear hb hbox hg; have hcz4_0 : w3.cell? ⟨gb177, 0, none⟩ = some (.int .u8 0) := (blk_cell BK177.out 0).trans rfl; have hcz4_1 : w3.cell? ⟨gb177, 1, none⟩ = some (.slice none 0 0) := (blk_cell BK177.out 1).trans rfl; have hfz4_0 := blk_frozen BK177.out 0; have hfz4_1 := blk_frozen BK177.out 1))
    refine bodyPost_ret (results_ct rfl _ _ gb177 37 #[.int .u8 0, .slice none 0 0] (0, 0) _ rfl (by (with_reducible repeat (first | refine blk_drewN ?_ _ | refine blk_drew ?_ | refine blk_alloc ?_ _)); refine blk_put (cs := #[.int .u8 0, .slice none 0 0]) ?_ 1 _ rfl; (with_reducible repeat (first | refine blk_drewN ?_ _ | refine blk_drew ?_ | refine blk_alloc ?_ _)); refine blk_put (cs := #[.int .u8 0, .slice none 0 0]) ?_ 0 _ rfl; (with_reducible repeat (first | refine blk_drewN ?_ _ | refine blk_drew ?_ | refine blk_alloc ?_ _)); exact BK177.out) Try.underlying37 rfl (by kernel_rfl)) rfl ?_
    exact ⟨_, by first | rfl | (simp [errW_none, errW_some] <;> rfl) | (simp [*, errW_none, errW_some] <;> rfl) | (exfalso; simp_all; done), by first | exact Kd.R_nil _ _ _ _ _ | exact Kd.N_nil _ _ _ _ _ | exact Kd.V_nil _ _ _ _ _ | exact Kd.Q_nil _ _ _ _ _ | exact Kd.S_nil _ _ _ _ _, by repeat (first | (with_reducible first | exact HB.out | apply below_alloc | apply pw_below_drewN | apply below_drew1 | refine below_set ?_ GE177.out) | exact HB.out)⟩
  · rw [if_neg c2] at H
    have c2b0 : decide (60 < (a0.size : Int)) = false := decide_eq_false c2
    have c2b1 : decide (60 < a0.size) = false := decide_eq_false (by omega)
    clear c2
    replace H := Option.bind_eq_some_iff.mp H
    obtain ⟨⟨t178, t179, t182, t183⟩, A50, H⟩ := H
    replace H : (if t183 = true then (some (t178, t179, (t182.toList == ([] : List UInt8)))) else (some (t178, t179, false))) = some (r1, r2, r3) := H
    have A5 := Aside0.mk A50
    clear A50
    by_cases c6 : t183 = true
    · subst c6
      have H1 : (some (t178, t179, (t182.toList == ([] : List UInt8)))) = some (r1, r2, r3) := by rw [if_pos rfl] at H; exact H
      clear H
      have H := H1
      clear H1
      simp only [Option.some.injEq, Prod.mk.injEq] at H
      obtain ⟨rfl, rfl, rfl⟩ := H
      go_enter Try.func22, Try.ntmps22
      go_wp2_with (first | ((with_reducible refine gate_dst (N := 2) rfl ?_); refine box_event ?hg (N := 2) ?hd (cs := #[.int .u8 0, .slice none 0 0]) (t := 37) ?hr ?_; (case hd => rfl); (case hg => rfl); (case hr => first | (go_simp; done) | (go_simp; rfl)); intro gb177 hg w7 hbox hb; have n0_ := Aside0.mk (below_step (by repeat (first | (with_reducible first | exact HB.out | apply below_alloc | apply pw_below_drewN | apply below_drew1) | exact HB.out)) hb); have n1_ := Aside0.mk (hbox); have n2_ := Aside0.mk ((by rw [hg]; exact (below_size (by repeat (first | (with_reducible first | exact HB.out | apply below_alloc | apply pw_below_drewN | apply below_drew1) | exact HB.out))) : w.heap.size ≤ gb177)); have n3_ := Aside0.mk ((by rw [hg]; exact (below_size (by repeat (first | (with_reducible first | exact HB.out | apply below_alloc | apply pw_below_drewN | apply below_drew1) | exact HB.out))) : w.heap.size ≤ gb177)); clear HB; have HB := n0_; have BK177 := n1_; have GW177 := n2_; have GE177 := n3_; clear n0_ n1_ n2_ n3_; clear hb hbox hg) | ((with_reducible refine gate_callee (f := 30) rfl ?_); refine goesL_ (some 13) rfl rfl Try.func30 (by kernel_rfl) rfl #[.string a0] rfl (by (try simp only [List.map_toArray, List.map_cons, List.map_nil]); first | done | rfl | (simp only [List.length_drop, List.length_take]; rfl)) ?_; (with_reducible refine (impl_takeTerm.calls a0 t178 t179 t182 true _ A5.out).mono ?_); rintro e w8 ⟨v180, rfl, ho0, hb⟩; refine ⟨_, rfl, ?_⟩; have n0_ := Aside0.mk (Kd.R_lower (Kd.R_newB ho0 (g := gb177) (o := .cells #[.int .u8 0, .slice none 0 0] 37 (0, 0)) (by (with_reducible repeat (first | refine blk_drewN ?_ _ | refine blk_drew ?_ | refine blk_alloc ?_ _)); exact BK177.out)) (below_size (by repeat (first | (with_reducible first | exact HB.out | apply below_alloc | apply pw_below_drewN | apply below_drew1 | refine below_set ?_ GE177.out) | exact HB.out)))); have n1_ := Aside0.mk (blk_below (g := gb177) (o := .cells #[.int .u8 0, .slice none 0 0] 37 (0, 0)) (by (with_reducible repeat (first | refine blk_drewN ?_ _ | refine blk_drew ?_ | refine blk_alloc ?_ _)); exact BK177.out) hb); have n2_ := Aside0.mk (below_step (by repeat (first | (with_reducible first | exact HB.out | apply below_alloc | apply pw_below_drewN | apply below_drew1 | refine below_set ?_ GE177.out) | exact HB.out)) hb); clear BK177; clear HB; have HO181 := n0_; have BK177 := n1_; have HB := n2_; clear n0_ n1_ n2_; (try clear hb); (try clear hb2); (try clear hk); (try clear hi); (try clear ho0)) | ((with_reducible refine gate_dst (N := 4) rfl ?_); refine box_event ?hg (N := 4) ?hd (cs := #[.int .u8 0, .slice none 0 0]) (t := 37) ?hr ?_; (case hd => rfl); (case hg => rfl); (case hr => first | (go_simp; done) | (go_simp; rfl)); intro gb184 hg w9 hbox hb; have n0_ := Aside0.mk (Kd.R_below (Kd.R_elderB (by (with_reducible repeat (first | apply Kd.R_alloc | apply Kd.R_drewN | apply Kd.R_drew)); exact HO181.out) gb184 (Nat.le_of_eq hg.symm)) hb); have n1_ := Aside0.mk (blk_below (g := gb177) (o := .cells #[.int .u8 0, .slice none 0 0] 37 (0, 0)) (by (with_reducible repeat (first | refine blk_drewN ?_ _ | refine blk_drew ?_ | refine blk_alloc ?_ _)); exact BK177.out) hb); have n2_ := Aside0.mk (below_step (by repeat (first | (with_reducible first | exact HB.out | apply below_alloc | apply pw_below_drewN | apply below_drew1 | refine below_set ?_ GE177.out) | exact HB.out)) hb); have n3_ := Aside0.mk (hbox); have n4_ := Aside0.mk ((by rw [hg]; exact (below_size (by repeat (first | (with_reducible first | exact HB.out | apply below_alloc | apply pw_below_drewN | apply below_drew1 | refine below_set ?_ GE177.out) | exact HB.out))) : w.heap.size ≤ gb184)); have n5_ := Aside0.mk ((by rw [hg]; exact (below_size (by repeat (first | (with_reducible first | exact HB.out | apply below_alloc | apply pw_below_drewN | apply below_drew1 | refine below_set ?_ GE177.out) | exact HB.out))) : w.heap.size ≤ gb184)); have n6_ := Aside0.mk ((by rw [hg]; exact Nat.ne_of_lt (blk_lt (g := gb177) (o := .cells #[.int .u8 0, .slice none 0 0] 37 (0, 0)) (by (with_reducible repeat (first | refine blk_drewN ?_ _ | refine blk_drew ?_ | refine blk_alloc ?_ _)); exact BK177.out)) : gb177 ≠ gb184)); have n7_ := Aside0.mk ((by rw [hg]; exact Nat.ne_of_gt (blk_lt (g := gb177) (o := .cells #[.int .u8 0, .slice none 0 0] 37 (0, 0)) (by (with_reducible repeat (first | refine blk_drewN ?_ _ | refine blk_drew ?_ | refine blk_alloc ?_ _)); exact BK177.out)) : gb184 ≠ gb177)); clear HO181; clear BK177; clear HB; have HO181 := n0_; have BK177 := n1_; have HB := n2_; have BK184 := n3_; have GW184 := n4_; have GE184 := n5_; have NB177_184 := n6_; have NB184_177 := n7_; clear n0_ n1_ n2_ n3_ n4_ n5_ n6_ n7_; clear hb hbox hg; have hnb10 := NB184_177.out; have hnc10 := NB177_184.out; have hcz11_0 : w9.cell? ⟨gb184, 0, none⟩ = some (.int .u8 0) := (blk_cell BK184.out 0).trans rfl; have hcz11_1 : w9.cell? ⟨gb184, 1, none⟩ = some (.slice none 0 0) := (blk_cell BK184.out 1).trans rfl; have hfz11_0 := blk_frozen BK184.out 0; have hfz11_1 := blk_frozen BK184.out 1; obtain ⟨Ao12, co12, eo12⟩ := Kd.R_slice HO181.out; subst eo12; have hcz13_0 : w9.cell? ⟨gb177, 0, none⟩ = some (.int .u8 0) := (blk_cell BK177.out 0).trans rfl; have hcz13_1 : w9.cell? ⟨gb177, 1, none⟩ = some (.slice none 0 0) := (blk_cell BK177.out 1).trans rfl; have hfz13_0 := blk_frozen BK177.out 0; have hfz13_1 := blk_frozen BK177.out 1))
      refine bodyPost_ret (results_ct rfl _ _ gb177 37 #[.int .u8 t178, .slice Ao12 t179.length co12] (0, 0) _ rfl (by (with_reducible repeat (first | refine blk_drewN ?_ _ | refine blk_drew ?_ | refine blk_alloc ?_ _)); refine blk_put (cs := #[.int .u8 t178, .slice none 0 0]) ?_ 1 _ rfl; (with_reducible repeat (first | refine blk_drewN ?_ _ | refine blk_drew ?_ | refine blk_alloc ?_ _)); refine blk_put (cs := #[.int .u8 0, .slice none 0 0]) ?_ 0 _ rfl; (with_reducible repeat (first | refine blk_drewN ?_ _ | refine blk_drew ?_ | refine blk_alloc ?_ _)); refine blk_far ?_ NB177_184.out _; (with_reducible repeat (first | refine blk_drewN ?_ _ | refine blk_drew ?_ | refine blk_alloc ?_ _)); refine blk_far ?_ NB177_184.out _; (with_reducible repeat (first | refine blk_drewN ?_ _ | refine blk_drew ?_ | refine blk_alloc ?_ _)); exact BK177.out) Try.underlying37 rfl (by kernel_rfl)) rfl ?_
      exact ⟨_, by first | rfl | (simp [errW_none, errW_some] <;> rfl) | (simp [*, errW_none, errW_some] <;> rfl) | (exfalso; simp_all; done), by (with_reducible repeat (first | apply Kd.R_alloc | apply Kd.R_drewN | apply Kd.R_drew)); exact Kd.R_mono (Kd.R_far (p := ⟨gb177, 1, none⟩) (Kd.R_far (p := ⟨gb177, 0, none⟩) (Kd.R_far (p := ⟨gb184, 1, none⟩) (Kd.R_far (p := ⟨gb184, 0, none⟩) (Kd.R_mono (Kd.R_mono HO181.out (fun k_ hk => (⟨hk, hk.2⟩ : _ ∧ k_ ≠ gb184))) (fun k_ hk => (⟨hk, hk.1.1.2⟩ : _ ∧ k_ ≠ gb177))) (fun _ hk => hk.1.2) (.int .u8 t178)) (fun _ hk => hk.1.2) (.slice Ao12 t179.length co12)) (fun _ hk => hk.2) (.int .u8 t178)) (fun _ hk => hk.2) (.slice Ao12 t179.length co12)) (fun _ hk => trivial), by repeat (first | (with_reducible first | exact HB.out | apply below_alloc | apply pw_below_drewN | apply below_drew1 | refine below_set ?_ GE177.out | refine below_set ?_ GE184.out) | exact HB.out)⟩
    · replace c6 := Bool.eq_false_iff.mpr c6
      subst c6
      have H1 : (some (t178, t179, false)) = some (r1, r2, r3) := by rw [if_neg (show ¬ (false = true) by decide)] at H; exact H
      clear H
      have H := H1
      clear H1
      simp only [Option.some.injEq, Prod.mk.injEq] at H
      obtain ⟨rfl, rfl, rfl⟩ := H
      go_enter Try.func22, Try.ntmps22
      go_wp2_with (first | ((with_reducible refine gate_dst (N := 2) rfl ?_); refine box_event ?hg (N := 2) ?hd (cs := #[.int .u8 0, .slice none 0 0]) (t := 37) ?hr ?_; (case hd => rfl); (case hg => rfl); (case hr => first | (go_simp; done) | (go_simp; rfl)); intro gb177 hg w14 hbox hb; have n0_ := Aside0.mk (below_step (by repeat (first | (with_reducible first | exact HB.out | apply below_alloc | apply pw_below_drewN | apply below_drew1) | exact HB.out)) hb); have n1_ := Aside0.mk (hbox); have n2_ := Aside0.mk ((by rw [hg]; exact (below_size (by repeat (first | (with_reducible first | exact HB.out | apply below_alloc | apply pw_below_drewN | apply below_drew1) | exact HB.out))) : w.heap.size ≤ gb177)); have n3_ := Aside0.mk ((by rw [hg]; exact (below_size (by repeat (first | (with_reducible first | exact HB.out | apply below_alloc | apply pw_below_drewN | apply below_drew1) | exact HB.out))) : w.heap.size ≤ gb177)); clear HB; have HB := n0_; have BK177 := n1_; have GW177 := n2_; have GE177 := n3_; clear n0_ n1_ n2_ n3_; clear hb hbox hg) | ((with_reducible refine gate_callee (f := 30) rfl ?_); refine goesL_ (some 13) rfl rfl Try.func30 (by kernel_rfl) rfl #[.string a0] rfl (by (try simp only [List.map_toArray, List.map_cons, List.map_nil]); first | done | rfl | (simp only [List.length_drop, List.length_take]; rfl)) ?_; (with_reducible refine (impl_takeTerm.calls a0 t178 t179 t182 false _ A5.out).mono ?_); rintro e w15 ⟨v180, rfl, ho0, hb⟩; refine ⟨_, rfl, ?_⟩; have n0_ := Aside0.mk (Kd.R_lower (Kd.R_newB ho0 (g := gb177) (o := .cells #[.int .u8 0, .slice none 0 0] 37 (0, 0)) (by (with_reducible repeat (first | refine blk_drewN ?_ _ | refine blk_drew ?_ | refine blk_alloc ?_ _)); exact BK177.out)) (below_size (by repeat (first | (with_reducible first | exact HB.out | apply below_alloc | apply pw_below_drewN | apply below_drew1 | refine below_set ?_ GE177.out) | exact HB.out)))); have n1_ := Aside0.mk (blk_below (g := gb177) (o := .cells #[.int .u8 0, .slice none 0 0] 37 (0, 0)) (by (with_reducible repeat (first | refine blk_drewN ?_ _ | refine blk_drew ?_ | refine blk_alloc ?_ _)); exact BK177.out) hb); have n2_ := Aside0.mk (below_step (by repeat (first | (with_reducible first | exact HB.out | apply below_alloc | apply pw_below_drewN | apply below_drew1 | refine below_set ?_ GE177.out) | exact HB.out)) hb); clear BK177; clear HB; have HO181 := n0_; have BK177 := n1_; have HB := n2_; clear n0_ n1_ n2_; (try clear hb); (try clear hb2); (try clear hk); (try clear hi); (try clear ho0)) | ((with_reducible refine gate_dst (N := 4) rfl ?_); refine box_event ?hg (N := 4) ?hd (cs := #[.int .u8 0, .slice none 0 0]) (t := 37) ?hr ?_; (case hd => rfl); (case hg => rfl); (case hr => first | (go_simp; done) | (go_simp; rfl)); intro gb184 hg w16 hbox hb; have n0_ := Aside0.mk (Kd.R_below (Kd.R_elderB (by (with_reducible repeat (first | apply Kd.R_alloc | apply Kd.R_drewN | apply Kd.R_drew)); exact HO181.out) gb184 (Nat.le_of_eq hg.symm)) hb); have n1_ := Aside0.mk (blk_below (g := gb177) (o := .cells #[.int .u8 0, .slice none 0 0] 37 (0, 0)) (by (with_reducible repeat (first | refine blk_drewN ?_ _ | refine blk_drew ?_ | refine blk_alloc ?_ _)); exact BK177.out) hb); have n2_ := Aside0.mk (below_step (by repeat (first | (with_reducible first | exact HB.out | apply below_alloc | apply pw_below_drewN | apply below_drew1 | refine below_set ?_ GE177.out) | exact HB.out)) hb); have n3_ := Aside0.mk (hbox); have n4_ := Aside0.mk ((by rw [hg]; exact (below_size (by repeat (first | (with_reducible first | exact HB.out | apply below_alloc | apply pw_below_drewN | apply below_drew1 | refine below_set ?_ GE177.out) | exact HB.out))) : w.heap.size ≤ gb184)); have n5_ := Aside0.mk ((by rw [hg]; exact (below_size (by repeat (first | (with_reducible first | exact HB.out | apply below_alloc | apply pw_below_drewN | apply below_drew1 | refine below_set ?_ GE177.out) | exact HB.out))) : w.heap.size ≤ gb184)); have n6_ := Aside0.mk ((by rw [hg]; exact Nat.ne_of_lt (blk_lt (g := gb177) (o := .cells #[.int .u8 0, .slice none 0 0] 37 (0, 0)) (by (with_reducible repeat (first | refine blk_drewN ?_ _ | refine blk_drew ?_ | refine blk_alloc ?_ _)); exact BK177.out)) : gb177 ≠ gb184)); have n7_ := Aside0.mk ((by rw [hg]; exact Nat.ne_of_gt (blk_lt (g := gb177) (o := .cells #[.int .u8 0, .slice none 0 0] 37 (0, 0)) (by (with_reducible repeat (first | refine blk_drewN ?_ _ | refine blk_drew ?_ | refine blk_alloc ?_ _)); exact BK177.out)) : gb184 ≠ gb177)); clear HO181; clear BK177; clear HB; have HO181 := n0_; have BK177 := n1_; have HB := n2_; have BK184 := n3_; have GW184 := n4_; have GE184 := n5_; have NB177_184 := n6_; have NB184_177 := n7_; clear n0_ n1_ n2_ n3_ n4_ n5_ n6_ n7_; clear hb hbox hg; have hnb17 := NB184_177.out; have hnc17 := NB177_184.out; have hcz18_0 : w16.cell? ⟨gb184, 0, none⟩ = some (.int .u8 0) := (blk_cell BK184.out 0).trans rfl; have hcz18_1 : w16.cell? ⟨gb184, 1, none⟩ = some (.slice none 0 0) := (blk_cell BK184.out 1).trans rfl; have hfz18_0 := blk_frozen BK184.out 0; have hfz18_1 := blk_frozen BK184.out 1; obtain ⟨Ao19, co19, eo19⟩ := Kd.R_slice HO181.out; subst eo19; have hcz20_0 : w16.cell? ⟨gb177, 0, none⟩ = some (.int .u8 0) := (blk_cell BK177.out 0).trans rfl; have hcz20_1 : w16.cell? ⟨gb177, 1, none⟩ = some (.slice none 0 0) := (blk_cell BK177.out 1).trans rfl; have hfz20_0 := blk_frozen BK177.out 0; have hfz20_1 := blk_frozen BK177.out 1))
      refine bodyPost_ret (results_ct rfl _ _ gb177 37 #[.int .u8 t178, .slice Ao19 t179.length co19] (0, 0) _ rfl (by (with_reducible repeat (first | refine blk_drewN ?_ _ | refine blk_drew ?_ | refine blk_alloc ?_ _)); refine blk_put (cs := #[.int .u8 t178, .slice none 0 0]) ?_ 1 _ rfl; (with_reducible repeat (first | refine blk_drewN ?_ _ | refine blk_drew ?_ | refine blk_alloc ?_ _)); refine blk_put (cs := #[.int .u8 0, .slice none 0 0]) ?_ 0 _ rfl; (with_reducible repeat (first | refine blk_drewN ?_ _ | refine blk_drew ?_ | refine blk_alloc ?_ _)); refine blk_far ?_ NB177_184.out _; (with_reducible repeat (first | refine blk_drewN ?_ _ | refine blk_drew ?_ | refine blk_alloc ?_ _)); refine blk_far ?_ NB177_184.out _; (with_reducible repeat (first | refine blk_drewN ?_ _ | refine blk_drew ?_ | refine blk_alloc ?_ _)); exact BK177.out) Try.underlying37 rfl (by kernel_rfl)) rfl ?_
      exact ⟨_, by first | rfl | (simp [errW_none, errW_some] <;> rfl) | (simp [*, errW_none, errW_some] <;> rfl) | (exfalso; simp_all; done), by (with_reducible repeat (first | apply Kd.R_alloc | apply Kd.R_drewN | apply Kd.R_drew)); exact Kd.R_mono (Kd.R_far (p := ⟨gb177, 1, none⟩) (Kd.R_far (p := ⟨gb177, 0, none⟩) (Kd.R_far (p := ⟨gb184, 1, none⟩) (Kd.R_far (p := ⟨gb184, 0, none⟩) (Kd.R_mono (Kd.R_mono HO181.out (fun k_ hk => (⟨hk, hk.2⟩ : _ ∧ k_ ≠ gb184))) (fun k_ hk => (⟨hk, hk.1.1.2⟩ : _ ∧ k_ ≠ gb177))) (fun _ hk => hk.1.2) (.int .u8 t178)) (fun _ hk => hk.1.2) (.slice Ao19 t179.length co19)) (fun _ hk => hk.2) (.int .u8 t178)) (fun _ hk => hk.2) (.slice Ao19 t179.length co19)) (fun _ hk => trivial), by repeat (first | (with_reducible first | exact HB.out | apply below_alloc | apply pw_below_drewN | apply below_drew1 | refine below_set ?_ GE177.out | refine below_set ?_ GE184.out) | exact HB.out)⟩

/-! ### impl_walkable: function 14 -/
def impl_walkable.f (k : Nat) (a0 : ByteArray) : Option (Int × (List (S37)) × Bool) := (impl_readTerm.f a0).bind fun bt186 => (if bt186.2.2 = true then ((impl_term_length.f k bt186.1 bt186.2.1).bind fun t192 => (some (bt186.1, bt186.2.1, decide (t192 ≤ 200)))) else (some (bt186.1, bt186.2.1, false)))
theorem impl_walkable.mono : ∀ a0 k, LeO (impl_walkable.f k a0) (impl_walkable.f (k + 1) a0) := by
  intro a0 k
  unfold impl_walkable.f
  repeat' first
      | (with_reducible exact impl_term_length.mono _ _ _)
      | (with_reducible exact LeO.refl _)
      | (with_reducible exact LeO.none _)
      | (with_reducible refine LeO.ite ?_ ?_)
      | (with_reducible refine LeO.bind ?_ (fun _ => ?_))
      | exact impl_term_length.mono _ _ _
      | exact LeO.none _
      | refine LeO.ite ?_ ?_
      | refine LeO.bind ?_ (fun _ => ?_)
def impl_walkable.T2 : Bool × List (List Nat × List Nat) := (true, [([], []), ([], []), ([1], [1]), ([2], [2]), ([3, 2, 2], [2, 3]), ([4, 2], [2, 4]), ([2, 5], [2, 5]), ([0, 4, 0], [0]), ([6, 7, 0, 1, 2, 3, 4, 5, 6, 7], [6])])
def impl_walkable.B2 : List Nat := [0, 0, 2, 6, 14, 30, 62, 31, 255]
theorem impl_walkable.tab2 : rtab .any (opsOf Try.f14 2) = impl_walkable.T2 := by kernel_rfl
theorem impl_walkable.bits2 : waitsOk impl_walkable.T2.2 impl_walkable.B2 = true := by kernel_rfl
set_option maxHeartbeats 8000000 in
set_option maxRecDepth 100000 in
theorem impl_walkable.calls (k : Nat) (a0 : ByteArray) (r1 : Int) (r2 : List (S37)) (r3 : Bool) (w : World) (h : impl_walkable.f k a0 = some (r1, r2, r3)) :
    Calls Try.prog 14 #[.string a0] w fun e w' => ∃ v1_ : Value, e = .returned (.tuple #[.agg #[.int .u8 r1, v1_], .bool r3]) ∧ Kd.R k37 37 w' w.heap.size (fun _ => True) v1_ r2 ∧ Below w.heap.size w w' := by
  have hu37 := Try.underlying37
  have HB := Aside0.mk (Below.refl w.heap.size w)
  have H : ((impl_readTerm.f a0).bind fun bt186 => (if bt186.2.2 = true then ((impl_term_length.f k bt186.1 bt186.2.1).bind fun t192 => (some (bt186.1, bt186.2.1, decide (t192 ≤ 200)))) else (some (bt186.1, bt186.2.1, false)))) = some (r1, r2, r3) := h
  clear h
  replace H := Option.bind_eq_some_iff.mp H
  obtain ⟨⟨t186, t187, t190⟩, A20, H⟩ := H
  replace H : (if t190 = true then ((impl_term_length.f k t186 t187).bind fun t192 => (some (t186, t187, decide (t192 ≤ 200)))) else (some (t186, t187, false))) = some (r1, r2, r3) := H
  have A2 := Aside0.mk A20
  clear A20
  by_cases c3 : t190 = true
  · subst c3
    have H1 : ((impl_term_length.f k t186 t187).bind fun t192 => (some (t186, t187, decide (t192 ≤ 200)))) = some (r1, r2, r3) := by rw [if_pos rfl] at H; exact H
    clear H
    have H := H1
    clear H1
    replace H := Option.bind_eq_some_iff.mp H
    obtain ⟨t192, A40, H⟩ := H
    replace H : (some (t186, t187, decide (t192 ≤ 200))) = some (r1, r2, r3) := H
    have A4 := Aside0.mk A40
    clear A40
    simp only [Option.some.injEq, Prod.mk.injEq] at H
    obtain ⟨rfl, rfl, rfl⟩ := H
    go_enter Try.func14, Try.ntmps14
    try go_wp2_with (first | ((with_reducible refine gate_dst (N := 2) rfl ?_); refine box_event ?hg (N := 2) ?hd (cs := #[.int .u8 0, .slice none 0 0]) (t := 37) ?hr ?_; (case hd => rfl); (case hg => rfl); (case hr => first | (go_simp; done) | (go_simp; rfl)); intro gb185 hg w5 hbox hb; have n0_ := Aside0.mk (below_step (by repeat (first | (with_reducible first | exact HB.out | apply below_alloc | apply pw_below_drewN | apply below_drew1) | exact HB.out)) hb); have n1_ := Aside0.mk (hbox); have n2_ := Aside0.mk ((by rw [hg]; exact (below_size (by repeat (first | (with_reducible first | exact HB.out | apply below_alloc | apply pw_below_drewN | apply below_drew1) | exact HB.out))) : w.heap.size ≤ gb185)); have n3_ := Aside0.mk ((by rw [hg]; exact (below_size (by repeat (first | (with_reducible first | exact HB.out | apply below_alloc | apply pw_below_drewN | apply below_drew1) | exact HB.out))) : w.heap.size ≤ gb185)); clear HB; have HB := n0_; have BK185 := n1_; have GW185 := n2_; have GE185 := n3_; clear n0_ n1_ n2_ n3_; clear hb hbox hg) | ((with_reducible refine gate_callee (f := 22) rfl ?_); refine goesL_ (some 8) rfl rfl Try.func22 (by kernel_rfl) rfl #[.string a0] rfl (by (try simp only [List.map_toArray, List.map_cons, List.map_nil]); first | done | rfl | (simp only [List.length_drop, List.length_take]; rfl)) ?_; (with_reducible refine (impl_readTerm.calls a0 t186 t187 true _ A2.out).mono ?_); rintro e w6 ⟨v188, rfl, ho0, hb⟩; refine ⟨_, rfl, ?_⟩; have n0_ := Aside0.mk (Kd.R_lower (Kd.R_newB ho0 (g := gb185) (o := .cells #[.int .u8 0, .slice none 0 0] 37 (0, 0)) (by (with_reducible repeat (first | refine blk_drewN ?_ _ | refine blk_drew ?_ | refine blk_alloc ?_ _)); exact BK185.out)) (below_size (by repeat (first | (with_reducible first | exact HB.out | apply below_alloc | apply pw_below_drewN | apply below_drew1 | refine below_set ?_ GE185.out) | exact HB.out)))); have n1_ := Aside0.mk (blk_below (g := gb185) (o := .cells #[.int .u8 0, .slice none 0 0] 37 (0, 0)) (by (with_reducible repeat (first | refine blk_drewN ?_ _ | refine blk_drew ?_ | refine blk_alloc ?_ _)); exact BK185.out) hb); have n2_ := Aside0.mk (below_step (by repeat (first | (with_reducible first | exact HB.out | apply below_alloc | apply pw_below_drewN | apply below_drew1 | refine below_set ?_ GE185.out) | exact HB.out)) hb); clear BK185; clear HB; have HO189 := n0_; have BK185 := n1_; have HB := n2_; clear n0_ n1_ n2_; (try clear hb); (try clear hb2); (try clear hk); (try clear hi); (try clear ho0)) | ((with_reducible refine gate_dst (N := 4) rfl ?_); refine box_event ?hg (N := 4) ?hd (cs := #[.int .u8 0, .slice none 0 0]) (t := 37) ?hr ?_; (case hd => rfl); (case hg => rfl); (case hr => first | (go_simp; done) | (go_simp; rfl)); intro gb191 hg w7 hbox hb; have n0_ := Aside0.mk (Kd.R_below (Kd.R_elderB (by (with_reducible repeat (first | apply Kd.R_alloc | apply Kd.R_drewN | apply Kd.R_drew)); exact HO189.out) gb191 (Nat.le_of_eq hg.symm)) hb); have n1_ := Aside0.mk (blk_below (g := gb185) (o := .cells #[.int .u8 0, .slice none 0 0] 37 (0, 0)) (by (with_reducible repeat (first | refine blk_drewN ?_ _ | refine blk_drew ?_ | refine blk_alloc ?_ _)); exact BK185.out) hb); have n2_ := Aside0.mk (below_step (by repeat (first | (with_reducible first | exact HB.out | apply below_alloc | apply pw_below_drewN | apply below_drew1 | refine below_set ?_ GE185.out) | exact HB.out)) hb); have n3_ := Aside0.mk (hbox); have n4_ := Aside0.mk ((by rw [hg]; exact (below_size (by repeat (first | (with_reducible first | exact HB.out | apply below_alloc | apply pw_below_drewN | apply below_drew1 | refine below_set ?_ GE185.out) | exact HB.out))) : w.heap.size ≤ gb191)); have n5_ := Aside0.mk ((by rw [hg]; exact (below_size (by repeat (first | (with_reducible first | exact HB.out | apply below_alloc | apply pw_below_drewN | apply below_drew1 | refine below_set ?_ GE185.out) | exact HB.out))) : w.heap.size ≤ gb191)); have n6_ := Aside0.mk ((by rw [hg]; exact Nat.ne_of_lt (blk_lt (g := gb185) (o := .cells #[.int .u8 0, .slice none 0 0] 37 (0, 0)) (by (with_reducible repeat (first | refine blk_drewN ?_ _ | refine blk_drew ?_ | refine blk_alloc ?_ _)); exact BK185.out)) : gb185 ≠ gb191)); have n7_ := Aside0.mk ((by rw [hg]; exact Nat.ne_of_gt (blk_lt (g := gb185) (o := .cells #[.int .u8 0, .slice none 0 0] 37 (0, 0)) (by (with_reducible repeat (first | refine blk_drewN ?_ _ | refine blk_drew ?_ | refine blk_alloc ?_ _)); exact BK185.out)) : gb191 ≠ gb185)); clear HO189; clear BK185; clear HB; have HO189 := n0_; have BK185 := n1_; have HB := n2_; have BK191 := n3_; have GW191 := n4_; have GE191 := n5_; have NB185_191 := n6_; have NB191_185 := n7_; clear n0_ n1_ n2_ n3_ n4_ n5_ n6_ n7_; clear hb hbox hg; have hnb8 := NB191_185.out; have hnc8 := NB185_191.out; have hcz9_0 : w7.cell? ⟨gb191, 0, none⟩ = some (.int .u8 0) := (blk_cell BK191.out 0).trans rfl; have hcz9_1 : w7.cell? ⟨gb191, 1, none⟩ = some (.slice none 0 0) := (blk_cell BK191.out 1).trans rfl; have hfz9_0 := blk_frozen BK191.out 0; have hfz9_1 := blk_frozen BK191.out 1; obtain ⟨Ao10, co10, eo10⟩ := Kd.R_slice HO189.out; subst eo10))
    have n0_ : Aside0 (Kd.R k37 37 ((w7.setCell ⟨gb191, 0, none⟩ (.int .u8 t186)).setCell ⟨gb191, 1, none⟩ (.slice Ao10 t187.length co10)) w.heap.size (fun k_ => k_ ≠ gb185 ∧ k_ ≠ gb191) (.slice Ao10 t187.length co10) t187) := ⟨by (with_reducible repeat (first | apply Kd.R_alloc | apply Kd.R_drewN | apply Kd.R_drew)); exact Kd.R_mono (Kd.R_far (p := ⟨gb191, 1, none⟩) (Kd.R_far (p := ⟨gb191, 0, none⟩) (Kd.R_mono HO189.out (fun k_ hk => (⟨hk, hk.2⟩ : _ ∧ k_ ≠ gb191))) (fun _ hk => hk.2) (.int .u8 t186)) (fun _ hk => hk.2) (.slice Ao10 t187.length co10)) (fun _ hk => ⟨hk.1.1.2, hk.1.2⟩)⟩
    have n1_ : Aside0 (((w7.setCell ⟨gb191, 0, none⟩ (.int .u8 t186)).setCell ⟨gb191, 1, none⟩ (.slice Ao10 t187.length co10)).heap[gb185]? = some (.cells #[.int .u8 0, .slice none 0 0] 37 (0, 0))) := ⟨by (with_reducible repeat (first | refine blk_drewN ?_ _ | refine blk_drew ?_ | refine blk_alloc ?_ _)); refine blk_far ?_ NB185_191.out _; (with_reducible repeat (first | refine blk_drewN ?_ _ | refine blk_drew ?_ | refine blk_alloc ?_ _)); refine blk_far ?_ NB185_191.out _; (with_reducible repeat (first | refine blk_drewN ?_ _ | refine blk_drew ?_ | refine blk_alloc ?_ _)); exact BK185.out⟩
    have n2_ : Aside0 (((w7.setCell ⟨gb191, 0, none⟩ (.int .u8 t186)).setCell ⟨gb191, 1, none⟩ (.slice Ao10 t187.length co10)).heap[gb191]? = some (.cells #[.int .u8 t186, .slice Ao10 t187.length co10] 37 (0, 0))) := ⟨by (with_reducible repeat (first | refine blk_drewN ?_ _ | refine blk_drew ?_ | refine blk_alloc ?_ _)); refine blk_put (cs := #[.int .u8 t186, .slice none 0 0]) ?_ 1 _ rfl; (with_reducible repeat (first | refine blk_drewN ?_ _ | refine blk_drew ?_ | refine blk_alloc ?_ _)); refine blk_put (cs := #[.int .u8 0, .slice none 0 0]) ?_ 0 _ rfl; (with_reducible repeat (first | refine blk_drewN ?_ _ | refine blk_drew ?_ | refine blk_alloc ?_ _)); exact BK191.out⟩
    have n3_ : Aside0 (Below w.heap.size w ((w7.setCell ⟨gb191, 0, none⟩ (.int .u8 t186)).setCell ⟨gb191, 1, none⟩ (.slice Ao10 t187.length co10))) := ⟨by repeat (first | (with_reducible first | exact HB.out | apply below_alloc | apply pw_below_drewN | apply below_drew1 | refine below_set ?_ GE185.out | refine below_set ?_ GE191.out) | exact HB.out)⟩
    (try clear HO189)
    (try clear BK185)
    (try clear BK191)
    (try clear HB)
    generalize ((w7.setCell ⟨gb191, 0, none⟩ (.int .u8 t186)).setCell ⟨gb191, 1, none⟩ (.slice Ao10 t187.length co10)) = w11 at n0_ n1_ n2_ n3_ ⊢
    have HO189 := n0_
    have BK185 := n1_
    have BK191 := n2_
    have HB := n3_
    clear n0_ n1_ n2_ n3_
    have n0_ := Aside0.mk (Kd.R_drew HO189.out)
    have n1_ := Aside0.mk (blk_drew BK185.out)
    have n2_ := Aside0.mk (blk_drew BK191.out)
    have n3_ := Aside0.mk (below_drew1 HB.out)
    clear HO189
    clear BK185
    clear BK191
    clear HB
    have HO189 := n0_
    have BK185 := n1_
    have BK191 := n2_
    have HB := n3_
    clear n0_ n1_ n2_ n3_
    refine start_ (n := 9) (S := fun w' => w'.cell? ⟨gb191, 0, none⟩ = some (.int .u8 t186) ∧ w'.cell? ⟨gb191, 1, none⟩ = some (.slice Ao10 t187.length co10)) (ds := []) #[false, false, false, false, false, false, false, false, false] (by kernel_rfl) rfl rfl ⟨(blk_cell BK191.out 0).trans rfl, (blk_cell BK191.out 1).trans rfl⟩ (fun hHeld => ?_); refine with_tabW impl_walkable.tab2 impl_walkable.bits2 (fun HT_ HW_ => ?_)
    generalize w11.drew = w12 at HO189 BK185 BK191 HB hHeld ⊢
    refine pure_ (i := 1) (N := some 12) (v := ?_) (a' := ?_) #[false, true, false, false, false, false, false, false, false] rfl rfl (any_of HT_.out (by kernel_rfl)) (fun _ _ _ h => h) (Or.inl ⟨by rfl, ?_⟩) ?_ ?_
    rotate_left
    · intro w'
      go_simp
      with_reducible rfl
    rotate_left
    · simp only [Act.put, List.setIfInBounds_toArray, List.set_cons_zero, List.set_cons_succ, i64_w, i32_w]
      rfl
    refine pure_ (i := 2) (N := some 13) (v := ?_) (a' := ?_) #[false, true, true, false, false, false, false, false, false] rfl rfl (any_of HT_.out (by kernel_rfl)) (fun _ _ _ h => h) (Or.inl ⟨by rfl, ?_⟩) ?_ ?_
    rotate_left
    · intro w'
      go_simp
      with_reducible rfl
    rotate_left
    · simp only [Act.put, List.setIfInBounds_toArray, List.set_cons_zero, List.set_cons_succ, i64_w, i32_w]
      rfl
    refine take_ (i := 0) (N := some 11) (v := ?_) (a' := ?_) #[true, true, true, false, false, false, false, false, false] rfl rfl (take_ofW HT_.out HW_.out (by kernel_rfl)) (fun _ _ _ h => h) (Or.inl ⟨by rfl, ?_⟩) hHeld ?_ ?_
    rotate_left
    · rintro w' ⟨s0, s1⟩
      go_simp
      with_reducible rfl
    rotate_left
    · simp only [Act.put, List.setIfInBounds_toArray, List.set_cons_zero, List.set_cons_succ, i64_w, i32_w]
      rfl
    refine take_ (i := 3) (N := some 14) (v := ?_) (a' := ?_) #[true, true, true, true, false, false, false, false, false] rfl rfl (take_ofW HT_.out HW_.out (by kernel_rfl)) (fun _ _ _ h => h) (Or.inl ⟨by rfl, ?_⟩) hHeld ?_ ?_
    rotate_left
    · rintro w' ⟨s0, s1⟩
      go_simp
      with_reducible rfl
    rotate_left
    · simp only [Act.put, List.setIfInBounds_toArray, List.set_cons_zero, List.set_cons_succ, i64_w, i32_w]
      rfl
    refine one_ (i := 4) (N := some 15) #[true, true, true, true, true, false, false, false, false] rfl rfl (one_of HT_.out (by kernel_rfl)) (by decide) (fun K hK => ?_)
    refine goes_ Try.func15 (by kernel_rfl) rfl #[.agg #[.int .u8 t186, .slice Ao10 t187.length co10]] (by rfl) rfl rfl (by (try simp only [List.map_toArray, List.map_cons, List.map_nil]); first | done | rfl | (simp only [List.length_drop, List.length_take]; rfl)) ?_
    with_reducible refine (impl_term_length.calls k t186 _ _ t187 t192 _ ?side1 ?side2 A4.out).mono ?_
    (case side1 => repeat (first | exact (Kd.R_reads' HO189.out).2.2 | (with_reducible refine Kd.C_alloc ?_ _) | (with_reducible refine Kd.C_drewN ?_ _) | (with_reducible refine Kd.C_drew ?_)))
    (case side2 => exact (Kd.R_reads' HO189.out).2.1)
    rintro e w13 ⟨rfl, hb⟩
    refine ⟨_, rfl, ?_⟩
    have n0_ := Aside0.mk (Kd.R_below (by (with_reducible repeat (first | apply Kd.R_alloc | apply Kd.R_drewN | apply Kd.R_drew)); exact HO189.out) hb)
    have n1_ := Aside0.mk (blk_below (g := gb185) (o := .cells #[.int .u8 0, .slice none 0 0] 37 (0, 0)) (by (with_reducible repeat (first | refine blk_drewN ?_ _ | refine blk_drew ?_ | refine blk_alloc ?_ _)); exact BK185.out) hb)
    have n2_ := Aside0.mk (blk_below (g := gb191) (o := .cells #[.int .u8 t186, .slice Ao10 t187.length co10] 37 (0, 0)) (by (with_reducible repeat (first | refine blk_drewN ?_ _ | refine blk_drew ?_ | refine blk_alloc ?_ _)); exact BK191.out) hb)
    have n3_ := Aside0.mk (below_step (by repeat (first | (with_reducible first | exact HB.out | apply below_alloc | apply pw_below_drewN | apply below_drew1 | refine below_set ?_ GE185.out | refine below_set ?_ GE191.out) | exact HB.out)) hb)
    clear HO189
    clear BK185
    clear BK191
    clear HB
    have HO189 := n0_
    have BK185 := n1_
    have BK191 := n2_
    have HB := n3_
    clear n0_ n1_ n2_ n3_
    (try clear hb)
    (try clear hb2)
    (try clear hk)
    (try clear hi)
    refine hK.out _ _ ⟨(blk_cell BK191.out 0).trans rfl, (blk_cell BK191.out 1).trans rfl⟩ (fun hHeld => ?_)
    clear hK K
    refine norm_ (a' := ?_) ?_ ?_
    rotate_left
    · show Act.put _ (some 15) _ = _
      simp only [Act.put, List.setIfInBounds_toArray, List.set_cons_zero, List.set_cons_succ, i64_w, i32_w]
      rfl
    refine pure_ (i := 5) (N := some 16) (v := ?_) (a' := ?_) #[true, true, true, true, true, true, false, false, false] rfl rfl (any_of HT_.out (by kernel_rfl)) (fun _ _ _ h => h) (Or.inl ⟨by rfl, ?_⟩) ?_ ?_
    rotate_left
    · intro w'
      go_simp
      with_reducible rfl
    rotate_left
    · simp only [Act.put, List.setIfInBounds_toArray, List.set_cons_zero, List.set_cons_succ, i64_w, i32_w]
      rfl
    refine pure_ (i := 6) (N := some 17) (v := ?_) (a' := ?_) #[true, true, true, true, true, true, true, false, false] rfl rfl (any_of HT_.out (by kernel_rfl)) (fun _ _ _ h => h) (Or.inl ⟨by rfl, ?_⟩) ?_ ?_
    rotate_left
    · intro w'
      go_simp
      with_reducible rfl
    rotate_left
    · simp only [Act.put, List.setIfInBounds_toArray, List.set_cons_zero, List.set_cons_succ, i64_w, i32_w]
      rfl
    refine one_ (i := 7) (N := none) #[true, true, true, true, true, true, true, true, false] rfl rfl (one_of HT_.out (by kernel_rfl)) (by decide) (fun K hK => ?_)
    have hs14 : w13.cell? ⟨gb185, 0, none⟩ = some (.int .u8 0) := (blk_cell BK185.out 0).trans rfl
    have hfs14 := blk_frozen BK185.out 0
    have hns14_1 := NB191_185.out
    have hms14_1 := NB185_191.out
    have hs15 : w13.cell? ⟨gb185, 1, none⟩ = some (.slice none 0 0) := (blk_cell BK185.out 1).trans rfl
    have hfs15 := blk_frozen BK185.out 1
    have hns15_1 := NB191_185.out
    have hms15_1 := NB185_191.out
    refine skip_ (w1 := ?_) (by rfl) rfl ?_ ?_
    rotate_left
    · go_simp
      rfl
    refine hK.out _ _ ⟨((cell_far (p := ⟨gb185, _, none⟩) NB191_185.out _).trans (((cell_far (p := ⟨gb185, _, none⟩) NB191_185.out _).trans (hHeld.1)))), ((cell_far (p := ⟨gb185, _, none⟩) NB191_185.out _).trans (((cell_far (p := ⟨gb185, _, none⟩) NB191_185.out _).trans (hHeld.2))))⟩ (fun hHeld => ?_)
    clear hK K
    refine pure_ (i := 8) (N := some 3) (v := ?_) (a' := ?_) #[true, true, true, true, true, true, true, true, true] rfl rfl (any_of HT_.out (by kernel_rfl)) (fun _ _ _ h => h) (Or.inl ⟨by rfl, ?_⟩) ?_ ?_
    rotate_left
    · intro w'
      go_simp
      with_reducible rfl
    rotate_left
    · simp only [Act.put, List.setIfInBounds_toArray, List.set_cons_zero, List.set_cons_succ, i64_w, i32_w]
      rfl
    refine done_ (done_of HT_.out (by kernel_rfl)) ?_
    try go_wp2
    refine bodyPost_ret (results_ct rfl _ _ gb185 37 #[.int .u8 t186, .slice Ao10 t187.length co10] (0, 0) _ rfl (by (with_reducible repeat (first | refine blk_drewN ?_ _ | refine blk_drew ?_ | refine blk_alloc ?_ _)); refine blk_put (cs := #[.int .u8 t186, .slice none 0 0]) ?_ 1 _ rfl; (with_reducible repeat (first | refine blk_drewN ?_ _ | refine blk_drew ?_ | refine blk_alloc ?_ _)); refine blk_put (cs := #[.int .u8 0, .slice none 0 0]) ?_ 0 _ rfl; (with_reducible repeat (first | refine blk_drewN ?_ _ | refine blk_drew ?_ | refine blk_alloc ?_ _)); exact BK185.out) Try.underlying37 rfl (by kernel_rfl)) rfl ?_
    exact ⟨_, by first | rfl | (simp [errW_none, errW_some] <;> rfl) | (simp [*, errW_none, errW_some] <;> rfl) | (exfalso; simp_all; done), by (with_reducible repeat (first | apply Kd.R_alloc | apply Kd.R_drewN | apply Kd.R_drew)); exact Kd.R_mono (Kd.R_far (p := ⟨gb185, 1, none⟩) (Kd.R_far (p := ⟨gb185, 0, none⟩) (Kd.R_mono HO189.out (fun k_ hk => (⟨hk, hk.1⟩ : _ ∧ k_ ≠ gb185))) (fun _ hk => hk.2) (.int .u8 t186)) (fun _ hk => hk.2) (.slice Ao10 t187.length co10)) (fun _ hk => trivial), by repeat (first | (with_reducible first | exact HB.out | apply below_alloc | apply pw_below_drewN | apply below_drew1 | refine below_set ?_ GE185.out | refine below_set ?_ GE191.out) | exact HB.out)⟩
  · replace c3 := Bool.eq_false_iff.mpr c3
    subst c3
    have H1 : (some (t186, t187, false)) = some (r1, r2, r3) := by rw [if_neg (show ¬ (false = true) by decide)] at H; exact H
    clear H
    have H := H1
    clear H1
    simp only [Option.some.injEq, Prod.mk.injEq] at H
    obtain ⟨rfl, rfl, rfl⟩ := H
    go_enter Try.func14, Try.ntmps14
    try go_wp2_with (first | ((with_reducible refine gate_dst (N := 2) rfl ?_); refine box_event ?hg (N := 2) ?hd (cs := #[.int .u8 0, .slice none 0 0]) (t := 37) ?hr ?_; (case hd => rfl); (case hg => rfl); (case hr => first | (go_simp; done) | (go_simp; rfl)); intro gb185 hg w16 hbox hb; have n0_ := Aside0.mk (below_step (by repeat (first | (with_reducible first | exact HB.out | apply below_alloc | apply pw_below_drewN | apply below_drew1) | exact HB.out)) hb); have n1_ := Aside0.mk (hbox); have n2_ := Aside0.mk ((by rw [hg]; exact (below_size (by repeat (first | (with_reducible first | exact HB.out | apply below_alloc | apply pw_below_drewN | apply below_drew1) | exact HB.out))) : w.heap.size ≤ gb185)); have n3_ := Aside0.mk ((by rw [hg]; exact (below_size (by repeat (first | (with_reducible first | exact HB.out | apply below_alloc | apply pw_below_drewN | apply below_drew1) | exact HB.out))) : w.heap.size ≤ gb185)); clear HB; have HB := n0_; have BK185 := n1_; have GW185 := n2_; have GE185 := n3_; clear n0_ n1_ n2_ n3_; clear hb hbox hg) | ((with_reducible refine gate_callee (f := 22) rfl ?_); refine goesL_ (some 8) rfl rfl Try.func22 (by kernel_rfl) rfl #[.string a0] rfl (by (try simp only [List.map_toArray, List.map_cons, List.map_nil]); first | done | rfl | (simp only [List.length_drop, List.length_take]; rfl)) ?_; (with_reducible refine (impl_readTerm.calls a0 t186 t187 false _ A2.out).mono ?_); rintro e w17 ⟨v188, rfl, ho0, hb⟩; refine ⟨_, rfl, ?_⟩; have n0_ := Aside0.mk (Kd.R_lower (Kd.R_newB ho0 (g := gb185) (o := .cells #[.int .u8 0, .slice none 0 0] 37 (0, 0)) (by (with_reducible repeat (first | refine blk_drewN ?_ _ | refine blk_drew ?_ | refine blk_alloc ?_ _)); exact BK185.out)) (below_size (by repeat (first | (with_reducible first | exact HB.out | apply below_alloc | apply pw_below_drewN | apply below_drew1 | refine below_set ?_ GE185.out) | exact HB.out)))); have n1_ := Aside0.mk (blk_below (g := gb185) (o := .cells #[.int .u8 0, .slice none 0 0] 37 (0, 0)) (by (with_reducible repeat (first | refine blk_drewN ?_ _ | refine blk_drew ?_ | refine blk_alloc ?_ _)); exact BK185.out) hb); have n2_ := Aside0.mk (below_step (by repeat (first | (with_reducible first | exact HB.out | apply below_alloc | apply pw_below_drewN | apply below_drew1 | refine below_set ?_ GE185.out) | exact HB.out)) hb); clear BK185; clear HB; have HO189 := n0_; have BK185 := n1_; have HB := n2_; clear n0_ n1_ n2_; (try clear hb); (try clear hb2); (try clear hk); (try clear hi); (try clear ho0)) | ((with_reducible refine gate_dst (N := 4) rfl ?_); refine box_event ?hg (N := 4) ?hd (cs := #[.int .u8 0, .slice none 0 0]) (t := 37) ?hr ?_; (case hd => rfl); (case hg => rfl); (case hr => first | (go_simp; done) | (go_simp; rfl)); intro gb191 hg w18 hbox hb; have n0_ := Aside0.mk (Kd.R_below (Kd.R_elderB (by (with_reducible repeat (first | apply Kd.R_alloc | apply Kd.R_drewN | apply Kd.R_drew)); exact HO189.out) gb191 (Nat.le_of_eq hg.symm)) hb); have n1_ := Aside0.mk (blk_below (g := gb185) (o := .cells #[.int .u8 0, .slice none 0 0] 37 (0, 0)) (by (with_reducible repeat (first | refine blk_drewN ?_ _ | refine blk_drew ?_ | refine blk_alloc ?_ _)); exact BK185.out) hb); have n2_ := Aside0.mk (below_step (by repeat (first | (with_reducible first | exact HB.out | apply below_alloc | apply pw_below_drewN | apply below_drew1 | refine below_set ?_ GE185.out) | exact HB.out)) hb); have n3_ := Aside0.mk (hbox); have n4_ := Aside0.mk ((by rw [hg]; exact (below_size (by repeat (first | (with_reducible first | exact HB.out | apply below_alloc | apply pw_below_drewN | apply below_drew1 | refine below_set ?_ GE185.out) | exact HB.out))) : w.heap.size ≤ gb191)); have n5_ := Aside0.mk ((by rw [hg]; exact (below_size (by repeat (first | (with_reducible first | exact HB.out | apply below_alloc | apply pw_below_drewN | apply below_drew1 | refine below_set ?_ GE185.out) | exact HB.out))) : w.heap.size ≤ gb191)); have n6_ := Aside0.mk ((by rw [hg]; exact Nat.ne_of_lt (blk_lt (g := gb185) (o := .cells #[.int .u8 0, .slice none 0 0] 37 (0, 0)) (by (with_reducible repeat (first | refine blk_drewN ?_ _ | refine blk_drew ?_ | refine blk_alloc ?_ _)); exact BK185.out)) : gb185 ≠ gb191)); have n7_ := Aside0.mk ((by rw [hg]; exact Nat.ne_of_gt (blk_lt (g := gb185) (o := .cells #[.int .u8 0, .slice none 0 0] 37 (0, 0)) (by (with_reducible repeat (first | refine blk_drewN ?_ _ | refine blk_drew ?_ | refine blk_alloc ?_ _)); exact BK185.out)) : gb191 ≠ gb185)); clear HO189; clear BK185; clear HB; have HO189 := n0_; have BK185 := n1_; have HB := n2_; have BK191 := n3_; have GW191 := n4_; have GE191 := n5_; have NB185_191 := n6_; have NB191_185 := n7_; clear n0_ n1_ n2_ n3_ n4_ n5_ n6_ n7_; clear hb hbox hg; have hnb19 := NB191_185.out; have hnc19 := NB185_191.out; have hcz20_0 : w18.cell? ⟨gb191, 0, none⟩ = some (.int .u8 0) := (blk_cell BK191.out 0).trans rfl; have hcz20_1 : w18.cell? ⟨gb191, 1, none⟩ = some (.slice none 0 0) := (blk_cell BK191.out 1).trans rfl; have hfz20_0 := blk_frozen BK191.out 0; have hfz20_1 := blk_frozen BK191.out 1; obtain ⟨Ao21, co21, eo21⟩ := Kd.R_slice HO189.out; subst eo21))
    have n0_ : Aside0 (Kd.R k37 37 ((w18.setCell ⟨gb191, 0, none⟩ (.int .u8 t186)).setCell ⟨gb191, 1, none⟩ (.slice Ao21 t187.length co21)) w.heap.size (fun k_ => k_ ≠ gb185 ∧ k_ ≠ gb191) (.slice Ao21 t187.length co21) t187) := ⟨by (with_reducible repeat (first | apply Kd.R_alloc | apply Kd.R_drewN | apply Kd.R_drew)); exact Kd.R_mono (Kd.R_far (p := ⟨gb191, 1, none⟩) (Kd.R_far (p := ⟨gb191, 0, none⟩) (Kd.R_mono HO189.out (fun k_ hk => (⟨hk, hk.2⟩ : _ ∧ k_ ≠ gb191))) (fun _ hk => hk.2) (.int .u8 t186)) (fun _ hk => hk.2) (.slice Ao21 t187.length co21)) (fun _ hk => ⟨hk.1.1.2, hk.1.2⟩)⟩
    have n1_ : Aside0 (((w18.setCell ⟨gb191, 0, none⟩ (.int .u8 t186)).setCell ⟨gb191, 1, none⟩ (.slice Ao21 t187.length co21)).heap[gb185]? = some (.cells #[.int .u8 0, .slice none 0 0] 37 (0, 0))) := ⟨by (with_reducible repeat (first | refine blk_drewN ?_ _ | refine blk_drew ?_ | refine blk_alloc ?_ _)); refine blk_far ?_ NB185_191.out _; (with_reducible repeat (first | refine blk_drewN ?_ _ | refine blk_drew ?_ | refine blk_alloc ?_ _)); refine blk_far ?_ NB185_191.out _; (with_reducible repeat (first | refine blk_drewN ?_ _ | refine blk_drew ?_ | refine blk_alloc ?_ _)); exact BK185.out⟩
    have n2_ : Aside0 (((w18.setCell ⟨gb191, 0, none⟩ (.int .u8 t186)).setCell ⟨gb191, 1, none⟩ (.slice Ao21 t187.length co21)).heap[gb191]? = some (.cells #[.int .u8 t186, .slice Ao21 t187.length co21] 37 (0, 0))) := ⟨by (with_reducible repeat (first | refine blk_drewN ?_ _ | refine blk_drew ?_ | refine blk_alloc ?_ _)); refine blk_put (cs := #[.int .u8 t186, .slice none 0 0]) ?_ 1 _ rfl; (with_reducible repeat (first | refine blk_drewN ?_ _ | refine blk_drew ?_ | refine blk_alloc ?_ _)); refine blk_put (cs := #[.int .u8 0, .slice none 0 0]) ?_ 0 _ rfl; (with_reducible repeat (first | refine blk_drewN ?_ _ | refine blk_drew ?_ | refine blk_alloc ?_ _)); exact BK191.out⟩
    have n3_ : Aside0 (Below w.heap.size w ((w18.setCell ⟨gb191, 0, none⟩ (.int .u8 t186)).setCell ⟨gb191, 1, none⟩ (.slice Ao21 t187.length co21))) := ⟨by repeat (first | (with_reducible first | exact HB.out | apply below_alloc | apply pw_below_drewN | apply below_drew1 | refine below_set ?_ GE185.out | refine below_set ?_ GE191.out) | exact HB.out)⟩
    (try clear HO189)
    (try clear BK185)
    (try clear BK191)
    (try clear HB)
    generalize ((w18.setCell ⟨gb191, 0, none⟩ (.int .u8 t186)).setCell ⟨gb191, 1, none⟩ (.slice Ao21 t187.length co21)) = w22 at n0_ n1_ n2_ n3_ ⊢
    have HO189 := n0_
    have BK185 := n1_
    have BK191 := n2_
    have HB := n3_
    clear n0_ n1_ n2_ n3_
    have n0_ := Aside0.mk (Kd.R_drew HO189.out)
    have n1_ := Aside0.mk (blk_drew BK185.out)
    have n2_ := Aside0.mk (blk_drew BK191.out)
    have n3_ := Aside0.mk (below_drew1 HB.out)
    clear HO189
    clear BK185
    clear BK191
    clear HB
    have HO189 := n0_
    have BK185 := n1_
    have BK191 := n2_
    have HB := n3_
    clear n0_ n1_ n2_ n3_
    refine start_ (n := 9) (S := fun w' => w'.cell? ⟨gb191, 0, none⟩ = some (.int .u8 t186) ∧ w'.cell? ⟨gb191, 1, none⟩ = some (.slice Ao21 t187.length co21)) (ds := []) #[false, false, false, false, false, false, false, false, false] (by kernel_rfl) rfl rfl ⟨(blk_cell BK191.out 0).trans rfl, (blk_cell BK191.out 1).trans rfl⟩ (fun hHeld => ?_); refine with_tabW impl_walkable.tab2 impl_walkable.bits2 (fun HT_ HW_ => ?_)
    generalize w22.drew = w23 at HO189 BK185 BK191 HB hHeld ⊢
    refine pure_ (i := 1) (N := some 12) (v := ?_) (a' := ?_) #[false, true, false, false, false, false, false, false, false] rfl rfl (any_of HT_.out (by kernel_rfl)) (fun _ _ _ h => h) (Or.inl ⟨by rfl, ?_⟩) ?_ ?_
    rotate_left
    · intro w'
      go_simp
      with_reducible rfl
    rotate_left
    · simp only [Act.put, List.setIfInBounds_toArray, List.set_cons_zero, List.set_cons_succ, i64_w, i32_w]
      rfl
    refine pure_ (i := 2) (N := some 13) (v := ?_) (a' := ?_) #[false, true, true, false, false, false, false, false, false] rfl rfl (any_of HT_.out (by kernel_rfl)) (fun _ _ _ h => h) (Or.inl ⟨by rfl, ?_⟩) ?_ ?_
    rotate_left
    · intro w'
      go_simp
      with_reducible rfl
    rotate_left
    · simp only [Act.put, List.setIfInBounds_toArray, List.set_cons_zero, List.set_cons_succ, i64_w, i32_w]
      rfl
    refine pure_ (i := 3) (N := some 14) (v := undef) (a' := ?_) #[false, true, true, true, false, false, false, false, false] rfl rfl (any_of HT_.out (by kernel_rfl)) (fun _ _ _ h => h) (Or.inr ⟨by rfl, rfl⟩) ?_ ?_
    rotate_left
    · simp only [Act.put, List.setIfInBounds_toArray, List.set_cons_zero, List.set_cons_succ, i64_w, i32_w]
      rfl
    refine pure_ (i := 4) (N := some 15) (v := undef) (a' := ?_) #[false, true, true, true, true, false, false, false, false] rfl rfl (any_of HT_.out (by kernel_rfl)) (fun _ _ _ h => h) (Or.inr ⟨by rfl, rfl⟩) ?_ ?_
    rotate_left
    · simp only [Act.put, List.setIfInBounds_toArray, List.set_cons_zero, List.set_cons_succ, i64_w, i32_w]
      rfl
    refine pure_ (i := 5) (N := some 16) (v := undef) (a' := ?_) #[false, true, true, true, true, true, false, false, false] rfl rfl (any_of HT_.out (by kernel_rfl)) (fun _ _ _ h => h) (Or.inr ⟨by rfl, rfl⟩) ?_ ?_
    rotate_left
    · simp only [Act.put, List.setIfInBounds_toArray, List.set_cons_zero, List.set_cons_succ, i64_w, i32_w]
      rfl
    refine pure_ (i := 6) (N := some 17) (v := ?_) (a' := ?_) #[false, true, true, true, true, true, true, false, false] rfl rfl (any_of HT_.out (by kernel_rfl)) (fun _ _ _ h => h) (Or.inl ⟨by rfl, ?_⟩) ?_ ?_
    rotate_left
    · intro w'
      go_simp
      with_reducible rfl
    rotate_left
    · simp only [Act.put, List.setIfInBounds_toArray, List.set_cons_zero, List.set_cons_succ, i64_w, i32_w]
      rfl
    refine take_ (i := 0) (N := some 11) (v := ?_) (a' := ?_) #[true, true, true, true, true, true, true, false, false] rfl rfl (take_ofW HT_.out HW_.out (by kernel_rfl)) (fun _ _ _ h => h) (Or.inl ⟨by rfl, ?_⟩) hHeld ?_ ?_
    rotate_left
    · rintro w' ⟨s0, s1⟩
      go_simp
      with_reducible rfl
    rotate_left
    · simp only [Act.put, List.setIfInBounds_toArray, List.set_cons_zero, List.set_cons_succ, i64_w, i32_w]
      rfl
    refine one_ (i := 7) (N := none) #[true, true, true, true, true, true, true, true, false] rfl rfl (one_of HT_.out (by kernel_rfl)) (by decide) (fun K hK => ?_)
    have hs24 : w23.cell? ⟨gb185, 0, none⟩ = some (.int .u8 0) := (blk_cell BK185.out 0).trans rfl
    have hfs24 := blk_frozen BK185.out 0
    have hns24_1 := NB191_185.out
    have hms24_1 := NB185_191.out
    have hs25 : w23.cell? ⟨gb185, 1, none⟩ = some (.slice none 0 0) := (blk_cell BK185.out 1).trans rfl
    have hfs25 := blk_frozen BK185.out 1
    have hns25_1 := NB191_185.out
    have hms25_1 := NB185_191.out
    refine skip_ (w1 := ?_) (by rfl) rfl ?_ ?_
    rotate_left
    · go_simp
      rfl
    refine hK.out _ _ ⟨((cell_far (p := ⟨gb185, _, none⟩) NB191_185.out _).trans (((cell_far (p := ⟨gb185, _, none⟩) NB191_185.out _).trans (hHeld.1)))), ((cell_far (p := ⟨gb185, _, none⟩) NB191_185.out _).trans (((cell_far (p := ⟨gb185, _, none⟩) NB191_185.out _).trans (hHeld.2))))⟩ (fun hHeld => ?_)
    clear hK K
    refine pure_ (i := 8) (N := some 3) (v := ?_) (a' := ?_) #[true, true, true, true, true, true, true, true, true] rfl rfl (any_of HT_.out (by kernel_rfl)) (fun _ _ _ h => h) (Or.inl ⟨by rfl, ?_⟩) ?_ ?_
    rotate_left
    · intro w'
      go_simp
      with_reducible rfl
    rotate_left
    · simp only [Act.put, List.setIfInBounds_toArray, List.set_cons_zero, List.set_cons_succ, i64_w, i32_w]
      rfl
    refine done_ (done_of HT_.out (by kernel_rfl)) ?_
    try go_wp2
    refine bodyPost_ret (results_ct rfl _ _ gb185 37 #[.int .u8 t186, .slice Ao21 t187.length co21] (0, 0) _ rfl (by (with_reducible repeat (first | refine blk_drewN ?_ _ | refine blk_drew ?_ | refine blk_alloc ?_ _)); refine blk_put (cs := #[.int .u8 t186, .slice none 0 0]) ?_ 1 _ rfl; (with_reducible repeat (first | refine blk_drewN ?_ _ | refine blk_drew ?_ | refine blk_alloc ?_ _)); refine blk_put (cs := #[.int .u8 0, .slice none 0 0]) ?_ 0 _ rfl; (with_reducible repeat (first | refine blk_drewN ?_ _ | refine blk_drew ?_ | refine blk_alloc ?_ _)); exact BK185.out) Try.underlying37 rfl (by kernel_rfl)) rfl ?_
    exact ⟨_, by first | rfl | (simp [errW_none, errW_some] <;> rfl) | (simp [*, errW_none, errW_some] <;> rfl) | (exfalso; simp_all; done), by (with_reducible repeat (first | apply Kd.R_alloc | apply Kd.R_drewN | apply Kd.R_drew)); exact Kd.R_mono (Kd.R_far (p := ⟨gb185, 1, none⟩) (Kd.R_far (p := ⟨gb185, 0, none⟩) (Kd.R_mono HO189.out (fun k_ hk => (⟨hk, hk.1⟩ : _ ∧ k_ ≠ gb185))) (fun _ hk => hk.2) (.int .u8 t186)) (fun _ hk => hk.2) (.slice Ao21 t187.length co21)) (fun _ hk => trivial), by repeat (first | (with_reducible first | exact HB.out | apply below_alloc | apply pw_below_drewN | apply below_drew1 | refine below_set ?_ GE185.out | refine below_set ?_ GE191.out) | exact HB.out)⟩

-- NOT PRINTED: function 40 (bits_Mul32)

-- NOT PRINTED: function 41 (bits_Mul64)

-- NOT PRINTED: function 32 (bits_Mul)

/-! ### strings_HasPrefix: function 33 -/
def strings_HasPrefix.f (a0 : ByteArray) (a1 : ByteArray) : Option (Bool) := (stringslite_HasPrefix.f a0 a1).bind fun t193 => (some t193)
set_option maxHeartbeats 8000000 in
set_option maxRecDepth 100000 in
theorem strings_HasPrefix.calls (a0 : ByteArray) (a1 : ByteArray) (r : Bool) (w : World) (h : strings_HasPrefix.f a0 a1 = some r) :
    Calls Try.prog 33 #[.string a0, .string a1] w fun e w' => e = .returned (.bool r) ∧ Drawn0 w w' := by
  have H : ((stringslite_HasPrefix.f a0 a1).bind fun t193 => (some t193)) = some r := h
  clear h
  replace H := Option.bind_eq_some_iff.mp H
  obtain ⟨t193, A30, H⟩ := H
  replace H : (some t193) = some r := H
  have A3 := Aside0.mk A30
  clear A30
  obtain rfl := Option.some.inj H
  go_enter Try.func33, Try.ntmps33
  go_wp2_with (first | ((with_reducible refine gate_callee (f := 42) rfl ?_); refine goesL_ (some 7) rfl rfl Try.func42 (by kernel_rfl) rfl #[.string a0, .string a1] rfl (by (try simp only [List.map_toArray, List.map_cons, List.map_nil]); first | done | rfl | (simp only [List.length_drop, List.length_take]; rfl)) ?_; (with_reducible refine (stringslite_HasPrefix.calls a0 a1 t193 _ A3.out).mono ?_); rintro e w' ⟨rfl, ⟨nd, rfl⟩⟩; refine ⟨_, rfl, ?_⟩))
  go_ret
  exact ⟨by first | rfl | (simp; done) | (simp [*]; done), by repeat (first | exact Drawn0.refl _ | apply Drawn0.step)⟩

-- NOT PRINTED: function 46 (abi_NoEscape)

-- NOT PRINTED: function 43 (strings_Builder_copyCheck)

-- NOT PRINTED: function 47 (bytealg_MakeNoZero)

-- NOT PRINTED: function 44 (strings_Builder_grow)

-- NOT PRINTED: function 34 (strings_Builder_Grow)

-- NOT PRINTED: function 35 (strings_Builder_WriteString)

-- NOT PRINTED: function 36 (strings_Builder_Len)

-- NOT PRINTED: function 37 (strings_Builder_String)

/-! ### strings_Repeat: function 25, from the shelf -/
def strings_Repeat.f (a0 : ByteArray) (a1 : Int) : Option ByteArray := if 0 ≤ a1 ∧ a1 ≤ 100 ∧ a0.size ≤ 1048576 then some ⟨(Lib.repeatL a0.data.toList a1.toNat).toArray⟩ else none
theorem strings_Repeat.calls (a0 : ByteArray) (a1 : Int) (r : ByteArray) (w : World) (h : strings_Repeat.f a0 a1 = some r) :
    Calls Try.prog 25 #[.string a0, .int .i64 a1] w fun e w' => e = .returned (.string r) ∧ Below w.heap.size w w' := by
  unfold strings_Repeat.f at h
  split at h
  · next hc =>
    injection h with h
    subst h
    obtain ⟨c, rfl⟩ := Int.eq_ofNat_of_zero_le hc.1
    have hb : a0.size * c ≤ 1048576 * 100 := Nat.mul_le_mul hc.2.2 (by omega)
    exact Go.Proofs.Ytopkmliapnalkaa.Shelf.Try.strings_Repeat a0 c w (by omega) (by omega)
  · simp at h

end Go.Proofs.Ytopkmliapnalkaa.PFnTermTurns
