/- Written by a program of this claim out of the translation: plain Lean functions and their contracts; what is proved: each Go function of this text comes to what its Lean function says. -/
import Derived.Test.YtcmpkabpmmmhoaaGreatDoorPFnExecuteTidyx0
namespace Go.Proofs.YtcmpkabpmmmhoaaGreatDoor.PFnExecuteTidy
open Go.RowKit Go.Proofs.YtcmpkabpmmmhoaaGreatDoorW.PrintWords Go.Proofs.YtcmpkabpmmmhoaaGreatDoorW.PrintLast Go.Proofs.YtcmpkabpmmmhoaaGreatDoorW.PrintMore
attribute [local go_sem] max2_int min2_int max_two min_two max_three min_three max_four min_four   -- for this text's walks alone
set_option linter.unusedVariables false
set_option linter.unusedSimpArgs false

/-! ### strconv_Itoa: function 22, from the shelf: the library's table is the world's -/
def TabW (w : World) : Prop := Lib.TabIs Tryz.prog w "internal/strconv.uint64pow10" .u64 Lib.pow10Tab
theorem TabW.below {w w' : World} (h : TabW w) (hb : Below w.heap.size w w') : TabW w' := by
  unfold TabW Lib.TabIs World.var? at h ⊢
  cases hg : Program.globalNamed Tryz.prog "internal/strconv.uint64pow10" with
  | none => rw [hg] at h; exact absurd h (by simp)
  | some g =>
    rw [hg] at h
    simp only [Option.bind_some] at h ⊢
    have hlt : g < w.heap.size := by
      rcases Nat.lt_or_ge g w.heap.size with h1 | h1
      · exact h1
      · rw [Array.getElem?_eq_none h1] at h
        exact absurd h (by simp)
    rw [hb.block g hlt]
    exact h
def strconv_Itoa.f (a0 : Int) : Option ByteArray := if -1000 ≤ a0 ∧ a0 ≤ 1000 then some ⟨(Lib.itoa a0).toArray⟩ else none
theorem strconv_Itoa.calls (a0 : Int) (r : ByteArray) (w : World) (h : strconv_Itoa.f a0 = some r) (htab_ : TabW w) :
    Calls Tryz.prog 22 #[.int .i64 a0] w fun e w' => e = .returned (.string r) ∧ Below w.heap.size w w' := by
  unfold strconv_Itoa.f at h
  split at h
  · next hc =>
    injection h with h
    subst h
    refine (Go.Proofs.YtcmpkabpmmmhoaaGreatDoor.Shelf.Tryz.strconv_Itoa a0 (by omega) (by omega) w htab_).mono ?_
    rintro e w' ⟨rfl, k, os, rfl⟩
    exact ⟨rfl, ⟨rfl, rfl, rfl, by simp, fun q hq => Go.Sort.heap_grow_old _ _ (by simpa using hq)⟩⟩
  · simp at h

/-! ### strings_Split: function 28, by hand over the shelf: a text cut at a byte -/
def strings_Split.f (s sep : ByteArray) : Option (List ByteArray) := if sep.size = 1 ∧ s.size ≤ 4194304 then some (Lib.splitB sep 0 (Lib.countB s sep) s) else none
theorem strings_Split.row {w : World} {g base : Nat} (xs : List ByteArray) (hl : xs.length ≤ 8388608) (h : w.heap[g]? = some (.cells (xs.map Value.string).toArray 9 (0, 0))) (hb : base ≤ g) : Kd.R Kd.string 9 w base (fun _ => True) (.slice (some ⟨g, 0, none⟩) xs.length xs.length) xs :=
  Kd.R_of_own (xs := xs) ⟨by simp [encs], Or.inr ⟨g, xs.length, (xs.map Value.string).toArray, rfl, hb, h, Nat.le_refl _, by unfold maxLen; omega, by simp, by
    rw [Nat.mul_one]
    show List.take xs.length (xs.map Value.string) = xs.map Value.string
    exact List.take_of_length_le (by simp)⟩⟩ (fun _ _ => trivial)
set_option maxHeartbeats 4000000 in
set_option maxRecDepth 100000 in
theorem strings_Split.calls (a0 : ByteArray) (a1 : ByteArray) (r : List ByteArray) (w : World) (h : strings_Split.f a0 a1 = some r) :
    Calls Tryz.prog 28 #[.string a0, .string a1] w fun e w' => ∃ v0_ : Value, e = .returned (v0_) ∧ Kd.R Kd.string 9 w' w.heap.size (fun _ => True) v0_ r ∧ Below w.heap.size w w' := by
  unfold strings_Split.f at h
  split at h
  · next hc =>
    obtain ⟨c, rfl⟩ := Lib.one_byte a1 hc.1
    injection h with h
    have hsz := hc.2
    have h1 : 1 ≤ (⟨#[c]⟩ : ByteArray).size := Nat.le_refl 1
    have hlen := Lib.splitB_all (⟨#[c]⟩ : ByteArray) h1 0 _ a0 rfl
    have hle := Lib.countB_le (⟨#[c]⟩ : ByteArray) h1 a0.size a0 (Nat.le_refl _)
    have hC := (Any.strings_Count_one Go.Proofs.YtcmpkabpmmmhoaaGreatDoor.Shelf.Tryz.lays138 a0 c w).mono (R' := fun e w' => e = .returned (.int .i64 (Lib.countB a0 ⟨#[c]⟩)) ∧ w' = w) fun e w' ⟨he, hw⟩ => ⟨by
      rw [he]
      show _ = Ending.returned (Value.int .i64 ((Lib.count a0.data.toList [c] : Nat) : Int))
      rw [Lib.count_one]
      rfl, hw⟩
    have hI : ∀ (x : ByteArray) (cs : Array Value), x.size ≤ a0.size → Calls Tryz.prog 118 #[.string x, .string ⟨#[c]⟩] (w.alloc (.cells cs 9)) fun e w' => e = .returned (.int .i64 (Lib.indexB x ⟨#[c]⟩)) ∧ w' = w.alloc (.cells cs 9) := fun x cs _ =>
      (Any.strings_Index_one Go.Proofs.YtcmpkabpmmmhoaaGreatDoor.Shelf.Tryz.lays143 x c _).mono fun e w' ⟨he, hw⟩ => ⟨by
        rw [he]
        show _ = Ending.returned (Value.int .i64 (Lib.index x.data.toList [c]))
        rw [Lib.index_one], hw⟩
    have core := Any.strings_genSplit_core Go.Proofs.YtcmpkabpmmmhoaaGreatDoor.Shelf.Tryz.lays221 (by kernel_rfl) a0 ⟨#[c]⟩ 0 (-1) (Lib.countB a0 ⟨#[c]⟩ + 1) w (by omega) h1 (Nat.zero_le _) hI hC (by decide) (by decide) (by rw [if_pos (by decide)]; omega)
    rw [Nat.add_sub_cancel, hlen] at core
    have e2 : Lib.cellsOf (Lib.splitB ⟨#[c]⟩ 0 (Lib.countB a0 ⟨#[c]⟩) a0) (Lib.countB a0 ⟨#[c]⟩ + 1) = ((Lib.splitB ⟨#[c]⟩ 0 (Lib.countB a0 ⟨#[c]⟩) a0).map Value.string).toArray := by rw [← hlen]; exact Lib.cellsOf_full _
    rw [e2, h] at core
    rw [h] at hlen
    have hn : Lib.countB a0 ⟨#[c]⟩ + 1 = r.length := hlen.symm
    rw [hn] at core
    have HC := Aside0.mk core
    have HL := Aside0.mk (show r.length ≤ 8388608 by omega)
    clear core hC hI e2 hn hlen hle hsz h1 h hc
    go_enter Tryz.func28, Tryz.ntmps28
    go_wp2_with (first | (go_at_call 55; refine HC.out.mono ?_; rintro e w1 ⟨rfl, hw⟩; subst hw))
    go_ret
    exact ⟨_, rfl, strings_Split.row r HL.out (heap_alloc_new w _) (Nat.le_refl _), below_alloc (Below.refl _ _) _⟩
  · simp at h

/-! ### strings_Cut: function 29, by hand: a text cut at its first blank -/
def strings_Cut.f (s : ByteArray) : ByteArray × ByteArray × Bool := if 0 ≤ Lib.indexByte s.data.toList 32 then (s.extract 0 (Lib.indexByte s.data.toList 32).toNat, s.extract ((Lib.indexByte s.data.toList 32).toNat + 1) s.size, true) else (s, ⟨#[]⟩, false)
theorem strings_Cut.index_in (s : ByteArray) (h : 0 ≤ Lib.indexByte s.data.toList 32) : Lib.indexByte s.data.toList 32 < (s.size : Int) := by
  have h1 := Lib.index_room s.data.toList [32] (by rw [Lib.index_one]; exact h)
  rw [Lib.index_one] at h1
  have h2 : s.data.toList.length = s.size := Array.length_toList
  rw [h2] at h1
  simp only [List.length_cons, List.length_nil] at h1
  omega
set_option maxHeartbeats 1000000 in
set_option maxRecDepth 100000 in
theorem strings_Cut.inner (s : ByteArray) (w : World) (hs : s.size ≤ 4194304) :
    Calls Tryz.prog 56 #[.string s, .string ⟨#[32]⟩] w fun e w' => e = .returned (.tuple #[.string (strings_Cut.f s).1, .string (strings_Cut.f s).2.1, .bool (strings_Cut.f s).2.2]) ∧ Drawn0 w w' := by
  obtain ⟨i, hi⟩ : ∃ i, Lib.indexByte s.data.toList 32 = i := ⟨_, rfl⟩
  have hin := strings_Cut.index_in s
  unfold strings_Cut.f
  rw [hi] at hin ⊢
  have HI := Aside0.mk hi
  clear hi
  by_cases h0 : 0 ≤ i
  · rw [if_pos h0]
    have h1 := hin h0
    have hw : IntKind.i64.wrap (i + 1) = i + 1 := (i64_w _).trans (by unfold wrap64; omega)
    have c3 : 0 ≤ i + 1 := by omega
    have c4 : i + 1 ≤ (s.size : Int) := by omega
    have c5 : i ≤ (s.size : Int) := by omega
    have e1 : (i + 1).toNat = i.toNat + 1 := by omega
    clear hin
    go_enter Tryz.func56, Tryz.ntmps56
    go_wp2_with (go_at_call 119; refine (Go.Proofs.YtcmpkabpmmmhoaaGreatDoor.Shelf.Tryz.stringslite_Index_one s 32 _).mono ?_; rintro e w' ⟨rfl, rfl⟩; rw [HI.out])
    go_quiet (fail)
    go_wp2
    go_ret3
    exact ⟨rfl, ⟨_, rfl⟩⟩
  · rw [if_neg h0]
    clear hin
    go_enter Tryz.func56, Tryz.ntmps56
    go_wp2_with (go_at_call 119; refine (Go.Proofs.YtcmpkabpmmmhoaaGreatDoor.Shelf.Tryz.stringslite_Index_one s 32 _).mono ?_; rintro e w' ⟨rfl, rfl⟩; rw [HI.out])
    go_ret3
    exact ⟨rfl, Drawn0.refl _⟩
set_option maxRecDepth 100000 in
theorem strings_Cut.calls (s : ByteArray) (w : World) (hs : s.size ≤ 4194304) :
    Calls Tryz.prog 29 #[.string s, .string ⟨#[32]⟩] w fun e w' => e = .returned (.tuple #[.string (strings_Cut.f s).1, .string (strings_Cut.f s).2.1, .bool (strings_Cut.f s).2.2]) ∧ Drawn0 w w' := by
  obtain ⟨r, hr⟩ : ∃ r, strings_Cut.f s = r := ⟨_, rfl⟩
  have h := strings_Cut.inner s w hs
  rw [hr] at h ⊢
  obtain ⟨r1, r2, r3⟩ := r
  have H := Aside0.mk h
  clear h hr
  go_enter Tryz.func29, Tryz.ntmps29
  go_wp2_with (go_at_call 56; refine H.out.mono ?_; rintro e w' ⟨rfl, ⟨⟨n, rfl⟩⟩⟩)
  go_ret3
  exact ⟨rfl, ⟨_, rfl⟩⟩
/-! #### the ruler's own cell, and the builder beside it -/
/-- The world has moved on: but for the ruler's cell nothing that stood has changed; the cell holds a list of the call's own. -/
def Ruled (w w' : World) (B g : Nat) (l : List Int) : Prop := w.grownBy w' (some g) ∧ ∃ A c, w'.heap[g]? = some (.cells #[.slice A l.length c] 23 (0, 0)) ∧ Kd.R (Kd.int .i64) 3 w' B (fun _ => True) (.slice A l.length c) l
theorem Ruled.same {w w' : World} {B g : Nat} {A : Option Addr} {c : Nat} {l : List Int} (hg : w.heap[g]? = some (.cells #[.slice A l.length c] 23 (0, 0))) (hr : Kd.R (Kd.int .i64) 3 w B (fun _ => True) (.slice A l.length c) l) (hb : Below w.heap.size w w') : Ruled w w' B g l :=
  ⟨⟨hb.os, hb.tape, hb.output, hb.size, fun k hk _ => hb.block k hk⟩, A, c, blk_below hg hb, Kd.R_below hr hb⟩
theorem builder_grown {T e t B b g : Nat} {bs : List Value} {cs : Array Value} {w w' : World} (h : Lib.IsBuilderF T e B b bs w) (hg : w.grownBy w' (some g)) (hc : w.heap[g]? = some (.cells cs t (0, 0))) (h1 : t ≠ T) (h2 : t ≠ e) : Lib.IsBuilderF T e B b bs w' := by
  have one : ∀ p, Lib.BuilderAtF T e B b p bs w → Lib.BuilderAtF T e B b p bs w' := by
    rintro p ⟨hB, v, hb, hown, hne⟩
    have hbg : b ≠ g := (blk_ne hc hb h1).symm
    exact ⟨hB, v, blk_grown hb hg (fun e => hbg (Option.some.inj e)), hown.kept hg (.inr (Lib.ownBlock_neF hown hc h2)), hne⟩
  exact h.elim (fun x => .inl (one _ x)) (fun x => .inr (one _ x))
theorem builder_below {T e B b : Nat} {bs : List Value} {w w' : World} (h : Lib.IsBuilderF T e B b bs w) (hb : Below w.heap.size w w') : Lib.IsBuilderF T e B b bs w' := by
  have hg : w.grownBy w' none := ⟨hb.os, hb.tape, hb.output, hb.size, fun k hk _ => hb.block k hk⟩
  have one : ∀ p, Lib.BuilderAtF T e B b p bs w → Lib.BuilderAtF T e B b p bs w' := by
    rintro p ⟨hB, v, hbb, hown, hne⟩
    refine ⟨hB, v, blk_below hbb hb, hown.kept hg ?_, hne⟩
    cases hv : v.ownBlock with
    | none => exact .inl rfl
    | some q => exact .inr (by simp)
  exact h.elim (fun x => .inl (one _ x)) (fun x => .inr (one _ x))
theorem builder_cells {T e B b : Nat} {bs : List Value} {w : World} (h : Lib.IsBuilderF T e B b bs w) : ∃ cs, w.heap[b]? = some (.cells cs T (0, 0)) := by
  rcases h with ⟨_, v, hb, _⟩ | ⟨_, v, hb, _⟩ <;> exact ⟨_, hb⟩
theorem R_others {α : Type} {d : Kd α} {e u T base b : Nat} {ok : Nat → Prop} {v : Value} {xs : List α} {cs : Array Value} {w w' : World} (h : d.R e w base ok v xs) (hk : Lib.OthersKept u (some b) w w') (hb : w.heap[b]? = some (.cells cs T (0, 0))) (hq : ∀ q, q ∈ e :: d.E → q ≠ u ∧ q ≠ T) : d.R e w' base ok v xs :=
  Kd.R_mono (Kd.R_step (Kd.R_bound h) (fun k hk' _ => by
    obtain ⟨_, _, _, q, hq', cells, hc⟩ := hk'
    rw [hc]
    refine hk k _ hc (fun he => ?_) (fun c fz he => ?_)
    · obtain rfl := Option.some.inj he
      rw [hc] at hb
      injection hb with hb
      injection hb with _ hb
      exact (hq q hq').2 hb
    · injection he with _ he
      exact (hq q hq').1 he)) (fun _ hk => hk.1)
theorem blk_others {u T t b g : Nat} {cs cs' : Array Value} {w w' : World} (hc : w.heap[g]? = some (.cells cs t (0, 0))) (hk : Lib.OthersKept u (some b) w w') (hb : w.heap[b]? = some (.cells cs' T (0, 0))) (h1 : t ≠ u) (h2 : t ≠ T) : w'.heap[g]? = some (.cells cs t (0, 0)) :=
  hk g _ hc (fun he => (blk_ne hc hb h2) (Option.some.inj he)) (fun c fz he => by
    injection he with _ he
    exact h1 he)
theorem R_ruled {α : Type} {d : Kd α} {e t base g : Nat} {ok : Nat → Prop} {v : Value} {xs : List α} {cs : Array Value} {w w' : World} (h : d.R e w base ok v xs) (hg : w.grownBy w' (some g)) (hc : w.heap[g]? = some (.cells cs t (0, 0))) (ht : ∀ q, q ∈ e :: d.E → q ≠ t) : d.R e w' base ok v xs :=
  Kd.R_mono (Kd.R_grown (Kd.R_types h hc ht) hg (fun k hk he => hk.2 (Option.some.inj he))) (fun _ hk => hk.1)
theorem below_ruled {w0 w w' : World} {g : Nat} (h : Below w0.heap.size w0 w) (hg : w.grownBy w' (some g)) (hB : w0.heap.size ≤ g) : Below w0.heap.size w0 w' :=
  pw_below_grown h (some g) h.size hg (fun k hk => by obtain rfl := Option.some.inj hk; exact hB)

-- NOT PRINTED: function 30 (strings_Builder_WriteString)

-- NOT PRINTED: function 199 (bytealg_IndexByteString)

/-! ### stringslite_IndexByte: function 171, by hand -/
def stringslite_IndexByte.f (a0 : ByteArray) (a1 : Int) : Option Int := some (Lib.indexByte a0.data.toList a1.toNat.toUInt8)
set_option maxHeartbeats 1000000 in
set_option maxRecDepth 100000 in
theorem stringslite_IndexByte.calls (a0 : ByteArray) (a1 : Int) (r : Int) (w : World) (h : stringslite_IndexByte.f a0 a1 = some r) :
    Calls Tryz.prog 171 #[.string a0, .int .u8 a1] w fun e w' => e = .returned (.int .i64 r) ∧ Drawn0 w w' := by
  injection h with h
  subst h
  go_enter Tryz.func171, Tryz.ntmps171
  go_wp2
  rw [run_callFunc_extern Tryz.func199 (by kernel_rfl) (by kernel_rfl) (by kernel_rfl) (e := Extern.BytealgIndexByte.indexByte) (by kernel_rfl), Lib.run_indexByteString]
  simp only [Result.andThen]
  rw [Oper.upon_value]
  go_wp2
  go_ret
  exact ⟨rfl, Drawn0.refl _⟩

/-! ### strings_IndexByte: function 161 -/
def strings_IndexByte.f (a0 : ByteArray) (a1 : Int) : Option (Int) := (stringslite_IndexByte.f a0 a1).bind fun t101 => (some t101)
set_option maxHeartbeats 8000000 in
set_option maxRecDepth 100000 in
theorem strings_IndexByte.calls (a0 : ByteArray) (a1 : Int) (r : Int) (w : World) (h : strings_IndexByte.f a0 a1 = some r) :
    Calls Tryz.prog 161 #[.string a0, .int .u8 a1] w fun e w' => e = .returned (.int .i64 r) ∧ Drawn0 w w' := by
  have H : ((stringslite_IndexByte.f a0 a1).bind fun t101 => (some t101)) = some r := h
  clear h
  replace H := Option.bind_eq_some_iff.mp H
  obtain ⟨t101, A30, H⟩ := H
  replace H : (some t101) = some r := H
  have A3 := Aside0.mk A30
  clear A30
  obtain rfl := Option.some.inj H
  go_enter Tryz.func161, Tryz.ntmps161
  go_wp2_with (first | ((with_reducible refine gate_callee (f := 171) rfl ?_); refine goesL_ (some 7) rfl rfl Tryz.func171 (by kernel_rfl) rfl #[.string a0, .int .u8 a1] rfl (by (try simp only [List.map_toArray, List.map_cons, List.map_nil]); first | done | rfl | (simp only [List.length_drop, List.length_take]; rfl)) ?_; (with_reducible refine (stringslite_IndexByte.calls a0 a1 t101 _ A3.out).mono ?_); rintro e w' ⟨rfl, ⟨nd, rfl⟩⟩; refine ⟨_, rfl, ?_⟩))
  go_ret
  exact ⟨by first | rfl | (simp; done) | (simp [*]; done), by repeat (first | exact Drawn0.refl _ | apply Drawn0.step)⟩

/-! ### impl_wayOf: function 109 -/
def impl_wayOf.f (a0 : Int) : Option (Int) := (strings_IndexByte.f (⟨#[101, 110, 119, 115]⟩ : ByteArray) a0).bind fun t102 => (some t102)
set_option maxHeartbeats 8000000 in
set_option maxRecDepth 100000 in
theorem impl_wayOf.calls (a0 : Int) (r : Int) (w : World) (h : impl_wayOf.f a0 = some r) :
    Calls Tryz.prog 109 #[.int .u8 a0] w fun e w' => e = .returned (.int .i64 r) ∧ Drawn0 w w' := by
  have H : ((strings_IndexByte.f (⟨#[101, 110, 119, 115]⟩ : ByteArray) a0).bind fun t102 => (some t102)) = some r := h
  clear h
  replace H := Option.bind_eq_some_iff.mp H
  obtain ⟨t102, A20, H⟩ := H
  replace H : (some t102) = some r := H
  have A2 := Aside0.mk A20
  clear A20
  obtain rfl := Option.some.inj H
  go_enter Tryz.func109, Tryz.ntmps109
  go_wp2_with (first | ((with_reducible refine gate_callee (f := 161) rfl ?_); refine goesL_ (some 4) rfl rfl Tryz.func161 (by kernel_rfl) rfl #[.string (⟨#[101, 110, 119, 115]⟩ : ByteArray), .int .u8 a0] rfl (by (try simp only [List.map_toArray, List.map_cons, List.map_nil]); first | done | rfl | (simp only [List.length_drop, List.length_take]; rfl)) ?_; (with_reducible refine (strings_IndexByte.calls (⟨#[101, 110, 119, 115]⟩ : ByteArray) a0 t102 _ A2.out).mono ?_); rintro e w' ⟨rfl, ⟨nd, rfl⟩⟩; refine ⟨_, rfl, ?_⟩))
  go_ret
  exact ⟨by first | rfl | (simp; done) | (simp [*]; done), by repeat (first | exact Drawn0.refl _ | apply Drawn0.step)⟩

/-! ### stringslite_HasPrefix: function 210 -/
def stringslite_HasPrefix.f (a0 : ByteArray) (a1 : ByteArray) : Option (Bool) := if (a0.size : Int) ≥ (a1.size : Int) then (if 0 ≤ (a1.size : Int) then (if (a1.size : Int) ≤ (a0.size : Int) then (some ((a0.extract 0 ((a1.size : Int) : Int).toNat).toList == a1.toList)) else (none)) else (none)) else (some false)
set_option maxHeartbeats 8000000 in
set_option maxRecDepth 100000 in
theorem stringslite_HasPrefix.calls (a0 : ByteArray) (a1 : ByteArray) (r : Bool) (w : World) (h : stringslite_HasPrefix.f a0 a1 = some r) :
    Calls Tryz.prog 210 #[.string a0, .string a1] w fun e w' => e = .returned (.bool r) ∧ Drawn0 w w' := by
  have H : (if (a0.size : Int) ≥ (a1.size : Int) then (if 0 ≤ (a1.size : Int) then (if (a1.size : Int) ≤ (a0.size : Int) then (some ((a0.extract 0 ((a1.size : Int) : Int).toNat).toList == a1.toList)) else (none)) else (none)) else (some false)) = some r := h
  clear h
  by_cases c3 : (a0.size : Int) ≥ (a1.size : Int)
  · rw [if_pos c3] at H
    have c3b0 : decide ((a1.size : Int) ≤ (a0.size : Int)) = true := decide_eq_true c3
    have c3b1 : decide (a1.size ≤ a0.size) = true := decide_eq_true (Int.ofNat_le.mp c3)
    clear c3
    by_cases c4 : 0 ≤ (a1.size : Int)
    · rw [if_pos c4] at H
      have c4b0 := eq_true c4
      have c4b1 : decide (0 ≤ (a1.size : Int)) = true := decide_eq_true c4
      clear c4
      by_cases c5 : (a1.size : Int) ≤ (a0.size : Int)
      · rw [if_pos c5] at H
        have c5b0 := eq_true c5
        have c5b1 : decide ((a1.size : Int) ≤ (a0.size : Int)) = true := decide_eq_true c5
        clear c5
        obtain rfl := Option.some.inj H
        go_enter Tryz.func210, Tryz.ntmps210
        go_wp2
        go_ret
        exact ⟨by first | rfl | (simp; done) | (simp [*]; done), by repeat (first | exact Drawn0.refl _ | apply Drawn0.step)⟩
      · rw [if_neg c5] at H
        exact absurd H (by simp)
    · rw [if_neg c4] at H
      exact absurd H (by simp)
  · rw [if_neg c3] at H
    have c3b0 : decide ((a1.size : Int) ≤ (a0.size : Int)) = false := decide_eq_false c3
    have c3b1 : decide (a1.size ≤ a0.size) = false := decide_eq_false (fun h => c3 (Int.ofNat_le.mpr h))
    clear c3
    obtain rfl := Option.some.inj H
    go_enter Tryz.func210, Tryz.ntmps210
    go_wp2
    go_ret
    exact ⟨by first | rfl | (simp; done) | (simp [*]; done), by repeat (first | exact Drawn0.refl _ | apply Drawn0.step)⟩

/-! ### stringslite_CutPrefix: function 193 -/
def stringslite_CutPrefix.f (a0 : ByteArray) (a1 : ByteArray) : Option (ByteArray × Bool) := (stringslite_HasPrefix.f a0 a1).bind fun t103 => (if t103 = true then (if 0 ≤ (a1.size : Int) then (if (a1.size : Int) ≤ (a0.size : Int) then (some (a0.extract ((a1.size : Int) : Int).toNat a0.size, true)) else (none)) else (none)) else (some (a0, false)))
set_option maxHeartbeats 8000000 in
set_option maxRecDepth 100000 in
theorem stringslite_CutPrefix.calls (a0 : ByteArray) (a1 : ByteArray) (r1 : ByteArray) (r2 : Bool) (w : World) (h : stringslite_CutPrefix.f a0 a1 = some (r1, r2)) :
    Calls Tryz.prog 193 #[.string a0, .string a1] w fun e w' => e = .returned (.tuple #[.string r1, .bool r2]) ∧ Drawn0 w w' := by
  have H : ((stringslite_HasPrefix.f a0 a1).bind fun t103 => (if t103 = true then (if 0 ≤ (a1.size : Int) then (if (a1.size : Int) ≤ (a0.size : Int) then (some (a0.extract ((a1.size : Int) : Int).toNat a0.size, true)) else (none)) else (none)) else (some (a0, false)))) = some (r1, r2) := h
  clear h
  replace H := Option.bind_eq_some_iff.mp H
  obtain ⟨t103, A30, H⟩ := H
  replace H : (if t103 = true then (if 0 ≤ (a1.size : Int) then (if (a1.size : Int) ≤ (a0.size : Int) then (some (a0.extract ((a1.size : Int) : Int).toNat a0.size, true)) else (none)) else (none)) else (some (a0, false))) = some (r1, r2) := H
  have A3 := Aside0.mk A30
  clear A30
  by_cases c4 : t103 = true
  · subst c4
    have H1 : (if 0 ≤ (a1.size : Int) then (if (a1.size : Int) ≤ (a0.size : Int) then (some (a0.extract ((a1.size : Int) : Int).toNat a0.size, true)) else (none)) else (none)) = some (r1, r2) := by rw [if_pos rfl] at H; exact H
    clear H
    have H := H1
    clear H1
    by_cases c5 : 0 ≤ (a1.size : Int)
    · rw [if_pos c5] at H
      have c5b0 := eq_true c5
      have c5b1 : decide (0 ≤ (a1.size : Int)) = true := decide_eq_true c5
      clear c5
      by_cases c6 : (a1.size : Int) ≤ (a0.size : Int)
      · rw [if_pos c6] at H
        have c6b0 := eq_true c6
        have c6b1 : decide ((a1.size : Int) ≤ (a0.size : Int)) = true := decide_eq_true c6
        clear c6
        simp only [Option.some.injEq, Prod.mk.injEq] at H
        obtain ⟨rfl, rfl⟩ := H
        go_enter Tryz.func193, Tryz.ntmps193
        go_wp2_with (first | ((with_reducible refine gate_callee (f := 210) rfl ?_); refine goesL_ (some 8) rfl rfl Tryz.func210 (by kernel_rfl) rfl #[.string a0, .string a1] rfl (by (try simp only [List.map_toArray, List.map_cons, List.map_nil]); first | done | rfl | (simp only [List.length_drop, List.length_take]; rfl)) ?_; (with_reducible refine (stringslite_HasPrefix.calls a0 a1 true _ A3.out).mono ?_); rintro e w' ⟨rfl, ⟨nd, rfl⟩⟩; refine ⟨_, rfl, ?_⟩))
        go_ret2
        exact ⟨by first | rfl | (simp; done) | (simp [*]; done), by repeat (first | exact Drawn0.refl _ | apply Drawn0.step)⟩
      · rw [if_neg c6] at H
        exact absurd H (by simp)
    · rw [if_neg c5] at H
      exact absurd H (by simp)
  · replace c4 := Bool.eq_false_iff.mpr c4
    subst c4
    have H1 : (some (a0, false)) = some (r1, r2) := by rw [if_neg (show ¬ (false = true) by decide)] at H; exact H
    clear H
    have H := H1
    clear H1
    simp only [Option.some.injEq, Prod.mk.injEq] at H
    obtain ⟨rfl, rfl⟩ := H
    go_enter Tryz.func193, Tryz.ntmps193
    go_wp2_with (first | ((with_reducible refine gate_callee (f := 210) rfl ?_); refine goesL_ (some 8) rfl rfl Tryz.func210 (by kernel_rfl) rfl #[.string a0, .string a1] rfl (by (try simp only [List.map_toArray, List.map_cons, List.map_nil]); first | done | rfl | (simp only [List.length_drop, List.length_take]; rfl)) ?_; (with_reducible refine (stringslite_HasPrefix.calls a0 a1 false _ A3.out).mono ?_); rintro e w' ⟨rfl, ⟨nd, rfl⟩⟩; refine ⟨_, rfl, ?_⟩))
    go_ret2
    exact ⟨by first | rfl | (simp; done) | (simp [*]; done), by repeat (first | exact Drawn0.refl _ | apply Drawn0.step)⟩

/-! ### strings_CutPrefix: function 160 -/
def strings_CutPrefix.f (a0 : ByteArray) (a1 : ByteArray) : Option (ByteArray × Bool) := (stringslite_CutPrefix.f a0 a1).bind fun bt104 => (some (bt104.1, bt104.2))
set_option maxHeartbeats 8000000 in
set_option maxRecDepth 100000 in
theorem strings_CutPrefix.calls (a0 : ByteArray) (a1 : ByteArray) (r1 : ByteArray) (r2 : Bool) (w : World) (h : strings_CutPrefix.f a0 a1 = some (r1, r2)) :
    Calls Tryz.prog 160 #[.string a0, .string a1] w fun e w' => e = .returned (.tuple #[.string r1, .bool r2]) ∧ Drawn0 w w' := by
  have H : ((stringslite_CutPrefix.f a0 a1).bind fun bt104 => (some (bt104.1, bt104.2))) = some (r1, r2) := h
  clear h
  replace H := Option.bind_eq_some_iff.mp H
  obtain ⟨⟨t104, t105⟩, A30, H⟩ := H
  replace H : (some (t104, t105)) = some (r1, r2) := H
  have A3 := Aside0.mk A30
  clear A30
  simp only [Option.some.injEq, Prod.mk.injEq] at H
  obtain ⟨rfl, rfl⟩ := H
  go_enter Tryz.func160, Tryz.ntmps160
  go_wp2_with (first | ((with_reducible refine gate_callee (f := 193) rfl ?_); refine goesL_ (some 8) rfl rfl Tryz.func193 (by kernel_rfl) rfl #[.string a0, .string a1] rfl (by (try simp only [List.map_toArray, List.map_cons, List.map_nil]); first | done | rfl | (simp only [List.length_drop, List.length_take]; rfl)) ?_; (with_reducible refine (stringslite_CutPrefix.calls a0 a1 t104 t105 _ A3.out).mono ?_); rintro e w' ⟨rfl, ⟨nd, rfl⟩⟩; refine ⟨_, rfl, ?_⟩))
  go_ret2
  exact ⟨by first | rfl | (simp; done) | (simp [*]; done), by repeat (first | exact Drawn0.refl _ | apply Drawn0.step)⟩

/-! ### impl_takeTerm: function 108, by hand -/
def impl_takeTerm.way (c : Int) : Int := if c = 101 then 0 else if c = 110 then 1 else if c = 119 then 2 else if c = 115 then 3 else -1
def impl_takeTerm.cut (c : Int) (l : ByteArray) : ByteArray × Bool := if 0 < l.size ∧ bt l 0 = c then (l.extract 1 l.size, true) else (l, false)
def impl_takeTerm.g : Nat → ByteArray → Int × List S61 × ByteArray × Bool
  | 0, s => (0, [], s, false)
  | k + 1, s =>
    if s.size = 0 then (0, [], s, false)
    else if bt s 0 = 101 ∨ bt s 0 = 110 ∨ bt s 0 = 119 ∨ bt s 0 = 115 then (bt s 0, [], s.extract 1 s.size, true)
    else if bt s 0 = 45 ∨ bt s 0 = 64 ∨ (50 ≤ bt s 0 ∧ bt s 0 ≤ 57) then
      (bt s 0, [⟨(impl_takeTerm.g k (s.extract 1 s.size)).1, (impl_takeTerm.g k (s.extract 1 s.size)).2.1⟩], (impl_takeTerm.g k (s.extract 1 s.size)).2.2.1, (impl_takeTerm.g k (s.extract 1 s.size)).2.2.2)
    else if bt s 0 ≠ 40 then (bt s 0, [], s.extract 1 s.size, false)
    else if (impl_takeTerm.g k (s.extract 1 s.size)).2.2.2 = false ∨ (impl_takeTerm.cut 43 (impl_takeTerm.g k (s.extract 1 s.size)).2.2.1).2 = false then (bt s 0, [], s.extract 1 s.size, false)
    else
      (bt s 0, [⟨(impl_takeTerm.g k (s.extract 1 s.size)).1, (impl_takeTerm.g k (s.extract 1 s.size)).2.1⟩, ⟨(impl_takeTerm.g k (impl_takeTerm.cut 43 (impl_takeTerm.g k (s.extract 1 s.size)).2.2.1).1).1, (impl_takeTerm.g k (impl_takeTerm.cut 43 (impl_takeTerm.g k (s.extract 1 s.size)).2.2.1).1).2.1⟩],
        (impl_takeTerm.cut 41 (impl_takeTerm.g k (impl_takeTerm.cut 43 (impl_takeTerm.g k (s.extract 1 s.size)).2.2.1).1).2.2.1).1,
        (impl_takeTerm.g k (impl_takeTerm.cut 43 (impl_takeTerm.g k (s.extract 1 s.size)).2.2.1).1).2.2.2 && (impl_takeTerm.cut 41 (impl_takeTerm.g k (impl_takeTerm.cut 43 (impl_takeTerm.g k (s.extract 1 s.size)).2.2.1).1).2.2.1).2)
def impl_takeTerm.f (a0 : ByteArray) : Option (Int × List S61 × ByteArray × Bool) :=
  if a0.size ≤ 60 then some (impl_takeTerm.g (a0.size + 1) a0) else none
theorem impl_takeTerm.way_is (c : Int) (h0 : 0 ≤ c) (h1 : c ≤ 255) : impl_wayOf.f c = some (impl_takeTerm.way c) := by
  have key : ∀ n : Nat, n < 256 → impl_wayOf.f (n : Int) = some (impl_takeTerm.way n) := by decide +kernel
  have := key c.toNat (by omega)
  rwa [Int.toNat_of_nonneg h0] at this
theorem impl_takeTerm.pre_is (c : UInt8) (l : ByteArray) : stringslite_HasPrefix.f l ⟨#[c]⟩ = some (decide (0 < l.size ∧ bt l 0 = (c.toNat : Int))) := by
  have hs : (⟨#[c]⟩ : ByteArray).size = 1 := rfl
  have hl : (⟨#[c]⟩ : ByteArray).toList = [c] := by rw [Lib.toList_data]
  unfold stringslite_HasPrefix.f
  simp only [hs, hl]
  by_cases h : 0 < l.size
  · have e : ((l.extract 0 (((1 : Nat) : Int)).toNat).toList == [c]) = decide (bt l 0 = (c.toNat : Int)) := by
      rw [Lib.extract_toList]
      have hn : 0 < l.data.toList.length := by rw [data_length]; exact h
      obtain ⟨x, r, hx⟩ : ∃ x r, l.data.toList = x :: r := List.exists_cons_of_length_pos hn
      have h0 : l[0] = l.data.toList[0] := rfl
      have hb : bt l 0 = (l[0].toNat : Int) := by unfold bt; rw [dif_pos (by simpa using h)]; rfl
      rw [hb, h0, Bool.eq_iff_iff]
      simp only [hx]
      simp
      constructor
      · intro hh; rw [hh]
      · intro hh; exact UInt8.toNat_inj.mp (by omega)
    rw [if_pos (show (l.size : Int) ≥ ((1 : Nat) : Int) by omega), if_pos (show (0 : Int) ≤ ((1 : Nat) : Int) by omega), if_pos (show ((1 : Nat) : Int) ≤ (l.size : Int) by omega), e]
    simp [h]
  · rw [if_neg (show ¬ (l.size : Int) ≥ ((1 : Nat) : Int) by omega)]
    simp [h]
theorem impl_takeTerm.cut_is (c : UInt8) (l : ByteArray) : strings_CutPrefix.f l ⟨#[c]⟩ = some (impl_takeTerm.cut c.toNat l) := by
  have hs : (⟨#[c]⟩ : ByteArray).size = 1 := rfl
  unfold strings_CutPrefix.f stringslite_CutPrefix.f impl_takeTerm.cut
  rw [impl_takeTerm.pre_is]
  simp only [hs, Option.bind_some]
  by_cases h : 0 < l.size ∧ bt l 0 = (c.toNat : Int)
  · rw [if_pos h, if_pos (decide_eq_true h), if_pos (show (0 : Int) ≤ ((1 : Nat) : Int) by omega), if_pos (show ((1 : Nat) : Int) ≤ (l.size : Int) by omega)]
    rfl
  · rw [if_neg h, if_neg (by simp only [decide_eq_false h]; decide)]
    rfl
def impl_takeTerm.Post (r : Int × List S61 × ByteArray × Bool) (w : World) (e : Ending) (w' : World) : Prop :=
  ∃ v1_ : Value, e = .returned (.tuple #[.agg #[.int .u8 r.1, v1_], .string r.2.2.1, .bool r.2.2.2]) ∧ Kd.R k61 61 w' w.heap.size (fun _ => True) v1_ r.2.1 ∧ Below w.heap.size w w'
theorem impl_takeTerm.heap_new {W : World} {o : Obj} {g : Nat} (h : g = W.heap.size) : (W.alloc o).heap[g]? = some o := by
  subst h
  exact heap_alloc_new W o
theorem impl_takeTerm.row_one {w : World} {base : Nat} {c : Int} {v : Value} {kids : List S61} {ok : Nat → Prop} (hk : Kd.R k61 61 w base ok v kids) : k61.M w base ok ⟨c, kids⟩ [.int .u8 c, v] :=
  k61_mkM w base ok _ hk
theorem impl_takeTerm.row_two {w : World} {g base : Nat} {c d : Int} {v u : Value} {kids more : List S61} (h : w.heap[g]? = some (.cells #[.int .u8 c, v, .int .u8 d, u] 61 (0, 0))) (hb : base ≤ g)
    (hk : Kd.R k61 61 w base (fun k => k ≠ g) v kids) (hm : Kd.R k61 61 w base (fun k => k ≠ g) u more) :
    Kd.R k61 61 w base (fun _ => True) (.slice (some ⟨g, 0, none⟩) 2 2) [⟨c, kids⟩, ⟨d, more⟩] := by
  refine ⟨fun _ _ => trivial, [.int .u8 c, v, .int .u8 d, u], ⟨rfl, Or.inr ⟨g, 2, #[.int .u8 c, v, .int .u8 d, u], rfl, hb, h, Nat.le_refl _, by decide, rfl, rfl⟩⟩, rfl, fun j q hq => ?_⟩
  match j, hq with
  | 0, hq =>
    injection hq with hq
    subst hq
    exact k61_mkM w base _ _ (Kd.R_mono hk (fun k hk => ⟨trivial, fun he => hk (by simpa [Value.ownBlock] using he)⟩))
  | 1, hq =>
    injection hq with hq
    subst hq
    exact k61_mkM w base _ _ (Kd.R_mono hm (fun k hk => ⟨trivial, fun he => hk (by simpa [Value.ownBlock] using he)⟩))
  | j + 2, hq => simp at hq
theorem impl_takeTerm.kids_move {w1 W2 : World} {B base g : Nat} {v : Value} {xs : List S61} (h : Kd.R k61 61 w1 B (fun _ => True) v xs) (hb : base ≤ B) (hm : ∀ k, B ≤ k → k < w1.heap.size → W2.heap[k]? = w1.heap[k]?) (hg : w1.heap.size ≤ g) :
    Kd.R k61 61 W2 base (fun k => k ≠ g) v xs :=
  Kd.R_mono (Kd.R_step (Kd.R_lower (Kd.R_bound h) hb) (fun k hk hlt => hm k hk.2.1 hlt)) (fun k hk => by have := hk.2.2.1; omega)
theorem impl_takeTerm.full {a0 : ByteArray} (h0 : 0 < a0.size) : a0.toList.isEmpty = false := by
  rw [Lib.toList_data]
  have := data_length a0
  cases h : a0.data.toList with
  | nil => rw [h] at this; simp at this; omega
  | cons x r => rfl
set_option maxHeartbeats 1000000 in
set_option maxRecDepth 100000 in
theorem impl_takeTerm.at_end (a0 : ByteArray) (w : World) (h1 : a0.toList = []) :
    Calls Tryz.prog 108 #[.string a0] w (impl_takeTerm.Post (0, [], a0, false) w) := by
  have hu34 := Tryz.underlying61
  have hd : a0.toList.isEmpty = true := by rw [h1]; rfl
  clear h1
  go_enter Tryz.func108, Tryz.ntmps108
  go_wp2_with fail
  refine bodyPost_ret (results_ctt rfl _ _ w.heap.size 61 #[.int .u8 0, .slice none 0 0] (0, 0) _ rfl (by repeat (first | (refine impl_takeTerm.heap_new ?_; simp; done) | refine blk_alloc ?_ _)) Tryz.underlying61 rfl (by kernel_rfl)) rfl ?_
  exact ⟨_, rfl, Kd.R_nil _ _ _ _ _, below_alloc (Below.refl _ _) _⟩
set_option maxHeartbeats 1000000 in
set_option maxRecDepth 100000 in
theorem impl_takeTerm.at_leaf (a0 : ByteArray) (w : World) (hs : a0.size ≤ 60) (h0 : 0 < a0.size) (c : Int) (hb : ∀ h : 0 < a0.size, ((a0[0]'h).toNat : Int) = c) (u : Int) (hw : impl_wayOf.f c = some u) (hu : decide (0 ≤ u) = true) :
    Calls Tryz.prog 108 #[.string a0] w (impl_takeTerm.Post (c, [], a0.extract 1 a0.size, true) w) := by
  have hu34 := Tryz.underlying61
  have hd : a0.toList.isEmpty = false := impl_takeTerm.full h0
  have HW := Lib.hid hw
  clear hw
  go_enter Tryz.func108, Tryz.ntmps108
  go_wp2_with (go_at_call 109; refine (impl_wayOf.calls _ _ _ HW.out).mono ?_; rintro e w1 ⟨rfl, ⟨⟨n, rfl⟩⟩⟩)
  refine bodyPost_ret (results_ctt rfl _ _ w.heap.size 61 #[.int .u8 c, .slice none 0 0] (0, 0) _ rfl (blk_put (blk_put (cs := #[.int .u8 0, .slice none 0 0]) (by repeat (first | (refine impl_takeTerm.heap_new ?_; simp; done) | refine blk_alloc ?_ _ | refine blk_drewN ?_ _ | refine blk_drew ?_)) 0 _ rfl) 1 _ rfl) Tryz.underlying61 rfl (by kernel_rfl)) rfl ?_
  exact ⟨_, rfl, Kd.R_nil _ _ _ _ _, by repeat (first | exact Below.refl _ _ | apply below_alloc | apply pw_below_drewN | apply below_drew1 | refine below_set ?_ (Nat.le_refl _))⟩
set_option maxHeartbeats 1000000 in
set_option maxRecDepth 100000 in
theorem impl_takeTerm.at_one' (a0 : ByteArray) (w : World) (hs : a0.size ≤ 60) (h0 : 0 < a0.size) (c : Int) (hb : ∀ h : 0 < a0.size, ((a0[0]'h).toNat : Int) = c) (u : Int) (hw : impl_wayOf.f c = some u) (hu : decide (0 ≤ u) = false)
    (e5 : (c == 45) = true ∨ ((c == 45) = false ∧ (c == 64) = true) ∨ ((c == 45) = false ∧ (c == 64) = false ∧ decide (50 ≤ c) = true ∧ decide (c ≤ 57) = true)) (t : Int × List S61 × ByteArray × Bool)
    (ih : ∀ w, Calls Tryz.prog 108 #[.string (a0.extract 1 a0.size)] w (impl_takeTerm.Post t w)) :
    Calls Tryz.prog 108 #[.string a0] w (impl_takeTerm.Post (c, [⟨t.1, t.2.1⟩], t.2.2.1, t.2.2.2) w) := by
  have hu34 := Tryz.underlying61
  have hd : a0.toList.isEmpty = false := impl_takeTerm.full h0
  have HW := Lib.hid hw
  have IH := Lib.hid ih
  clear hw ih
  rcases e5 with e5 | ⟨e5, e6⟩ | ⟨e5, e6, e7, e8⟩
  all_goals
    go_enter Tryz.func108, Tryz.ntmps108
    go_wp2_with (go_at_call 109; refine (impl_wayOf.calls _ _ _ HW.out).mono ?_; rintro e w1 ⟨rfl, ⟨⟨n, rfl⟩⟩⟩)
    refine (IH.out _).mono ?_
    rintro e w1 ⟨v1, rfl, hR1, hB1⟩
    have HB := Lib.hid (blk_below (g := w.heap.size) (o := .cells #[.int .u8 0, .slice none 0 0] 61) (by repeat (first | (refine impl_takeTerm.heap_new ?_; simp; done) | refine blk_alloc ?_ _ | refine blk_drewN ?_ _)) hB1)
    have HT := Lib.hid (blk_below (g := w.heap.size + 1) (o := .cells #[.int .u8 c, .slice none 0 0] 61) (by repeat (first | (refine impl_takeTerm.heap_new ?_; simp; done) | refine blk_alloc ?_ _ | refine blk_drewN ?_ _)) hB1)
    have hz : w.heap.size < w1.heap.size := blk_lt HB.out
    have hz1 : w.heap.size + 1 < w1.heap.size := blk_lt HT.out
    have t1 : w1.cell? ⟨w.heap.size + 1, 1, none⟩ = some (.slice none 0 0) := blk_cell HT.out 1
    obtain ⟨A1, k1, rfl⟩ := Kd.R_slice hR1
    have HR := Lib.hid hR1
    have B0 := Lib.hid (show Below w.heap.size w w1 from below_then (B := w.heap.size) (by repeat (first | exact Below.refl _ _ | apply below_alloc | apply pw_below_drewN | apply below_drew1)) (by simp; omega) hB1)
    clear hR1 hB1
    have hr2 : w1.frozen? ⟨w.heap.size + 1, 1, none⟩ = false := blk_frozen HT.out 1
    go_wp2_with (at_builtin; refine Kd.R_append k61 (w0 := w) w.heap.size rfl (.tmp 58) (.tmp 60) 59 61 (.agg #[.int .u8 0, .slice none 0 0]) 32 rfl Tryz.underlying59 info61 rfl (by decide) (by decide) (.slice none 0 0) [] ⟨t.1, t.2.1⟩ [.int .u8 t.1, .slice A1 t.2.1.length k1] (fun k => k ≠ w.heap.size ∧ k ≠ w.heap.size + 1) (fun k => w.heap.size + 1 + 1 ≤ k) rfl ?hx ?hp ?hokp ?hfresh (Kd.R_nil _ _ _ _ _) ?hBB ?hbase (by decide) ?_; (case hx => (show Value.slice (some ⟨w1.heap.size + 1, 0, none⟩) 1 1 = _; simp)); (case hp => exact k61_mkM _ _ _ _ (Kd.R_mono (Kd.R_step (Kd.R_lower (Kd.R_bound HR.out) (by simp; omega)) (fun k hk hlt => Below.heap_alloc _ _ _ hlt)) (fun k hk => by have := hk.2.1; simp at this; omega))); (case hokp => (intro k hk; exact ⟨⟨by omega, by omega⟩, by simp [Value.ownBlock]⟩)); (case hfresh => (intro k hk; simp at hk; exact ⟨by omega, by omega⟩)); (case hBB => exact below_alloc B0.out _); (case hbase => (simp; omega)); intro v2 w2 hR2 hB2 hg2 hat2; obtain ⟨A2, k2, rfl⟩ := Kd.R_slice hR2; have HR2 := Lib.hid hR2; have HB2 := Lib.hid (blk_grown (blk_alloc HB.out _) hg2 (by simp [Value.ownBlock])); have HT2 := Lib.hid (blk_grown (blk_alloc HT.out _) hg2 (by simp [Value.ownBlock])); have BB2 := Lib.hid hB2; have p0 := blk_cell HB2.out 0; have p1 := blk_cell HB2.out 1; have p2 := blk_cell HT2.out 0; have p3 := blk_cell HT2.out 1; have q0 := blk_frozen HB2.out 0; have q1 := blk_frozen HB2.out 1; have q2 := blk_frozen HT2.out 1; simp only [List.getElem?_toArray, List.getElem?_cons_zero, List.getElem?_cons_succ] at p0 p1 p2 p3; clear hR2 hB2 hg2 hat2)
    refine bodyPost_ret (results_ctt rfl _ _ w.heap.size 61 #[.int .u8 c, .slice A2 1 k2] (0, 0) _ rfl (blk_put (blk_put (blk_far HB2.out (by simp) _) 0 _ rfl) 1 _ rfl) Tryz.underlying61 rfl (by kernel_rfl)) rfl ?_
    exact ⟨_, rfl, Kd.R_mono (Kd.R_far (p := ⟨w.heap.size, 1, none⟩) (Kd.R_far (p := ⟨w.heap.size, 0, none⟩) (Kd.R_far (p := ⟨w.heap.size + 1, 1, none⟩) HR2.out (fun k hk => hk.2) _) (fun k hk => hk.1) _) (fun k hk => hk.1) _) (fun _ _ => trivial), below_set (below_set (below_set BB2.out (by omega)) (Nat.le_refl _)) (Nat.le_refl _)⟩
set_option maxHeartbeats 1000000 in
set_option maxRecDepth 100000 in
theorem impl_takeTerm.at_not (a0 : ByteArray) (w : World) (hs : a0.size ≤ 60) (h0 : 0 < a0.size) (c : Int) (hb : ∀ h : 0 < a0.size, ((a0[0]'h).toNat : Int) = c) (u : Int) (hw : impl_wayOf.f c = some u) (hu : decide (0 ≤ u) = false)
    (e5 : (c == 45) = false) (e6 : (c == 64) = false) (e7 : decide (50 ≤ c) = false ∨ (decide (50 ≤ c) = true ∧ decide (c ≤ 57) = false)) (e8 : (c != 40) = true) :
    Calls Tryz.prog 108 #[.string a0] w (impl_takeTerm.Post (c, [], a0.extract 1 a0.size, false) w) := by
  have hu34 := Tryz.underlying61
  have hd : a0.toList.isEmpty = false := impl_takeTerm.full h0
  have HW := Lib.hid hw
  clear hw
  rcases e7 with e7 | ⟨e7, e9⟩
  all_goals
    go_enter Tryz.func108, Tryz.ntmps108
    go_wp2_with (go_at_call 109; refine (impl_wayOf.calls _ _ _ HW.out).mono ?_; rintro e w1 ⟨rfl, ⟨⟨n, rfl⟩⟩⟩)
    refine bodyPost_ret (results_ctt rfl _ _ w.heap.size 61 #[.int .u8 c, .slice none 0 0] (0, 0) _ rfl (blk_put (blk_put (cs := #[.int .u8 0, .slice none 0 0]) (by repeat (first | (refine impl_takeTerm.heap_new ?_; simp; done) | refine blk_alloc ?_ _ | refine blk_drewN ?_ _ | refine blk_drew ?_)) 0 _ rfl) 1 _ rfl) Tryz.underlying61 rfl (by kernel_rfl)) rfl ?_
    exact ⟨_, rfl, Kd.R_nil _ _ _ _ _, by repeat (first | exact Below.refl _ _ | apply below_alloc | apply pw_below_drewN | apply below_drew1 | refine below_set ?_ (Nat.le_refl _))⟩
set_option maxHeartbeats 1000000 in
set_option maxRecDepth 100000 in
/-- '(' and no first term, or no '+' behind it. -/
theorem impl_takeTerm.at_mid (a0 : ByteArray) (w : World) (hs : a0.size ≤ 60) (h0 : 0 < a0.size) (c : Int) (hb : ∀ h : 0 < a0.size, ((a0[0]'h).toNat : Int) = c) (u : Int) (hw : impl_wayOf.f c = some u) (hu : decide (0 ≤ u) = false)
    (e5 : (c == 45) = false) (e6 : (c == 64) = false) (e7 : decide (50 ≤ c) = false) (e8 : (c != 40) = false) (t1 : Int) (t2 : List S61) (t3 : ByteArray) (t4 : Bool)
    (ih : ∀ w, Calls Tryz.prog 108 #[.string (a0.extract 1 a0.size)] w (impl_takeTerm.Post (t1, t2, t3, t4) w)) (l1 : ByteArray) (q1 : Bool) (hq : strings_CutPrefix.f t3 ⟨#[43]⟩ = some (l1, q1)) (hn : t4 = false ∨ (t4 = true ∧ q1 = false)) :
    Calls Tryz.prog 108 #[.string a0] w (impl_takeTerm.Post (c, [], a0.extract 1 a0.size, false) w) := by
  have hu34 := Tryz.underlying61
  have hd : a0.toList.isEmpty = false := impl_takeTerm.full h0
  have HW := Lib.hid hw
  have IH := Lib.hid ih
  have HQ := Lib.hid hq
  clear hw ih hq
  rcases hn with rfl | ⟨rfl, rfl⟩
  all_goals
    go_enter Tryz.func108, Tryz.ntmps108
    go_wp2_with (go_at_call 109; refine (impl_wayOf.calls _ _ _ HW.out).mono ?_; rintro e w1 ⟨rfl, ⟨⟨n, rfl⟩⟩⟩)
    refine (IH.out _).mono ?_
    rintro e w1 ⟨v1, rfl, hR1, hB1⟩
    have HB := Lib.hid (blk_below (g := w.heap.size) (o := .cells #[.int .u8 0, .slice none 0 0] 61) (by repeat (first | (refine impl_takeTerm.heap_new ?_; simp; done) | refine blk_alloc ?_ _ | refine blk_drewN ?_ _)) hB1)
    have HT := Lib.hid (blk_below (g := w.heap.size + 1) (o := .cells #[.int .u8 c, .slice none 0 0] 61) (by repeat (first | (refine impl_takeTerm.heap_new ?_; simp; done) | refine blk_alloc ?_ _ | refine blk_drewN ?_ _)) hB1)
    have B0 := Lib.hid (show Below w.heap.size w w1 from below_then (B := w.heap.size) (by repeat (first | exact Below.refl _ _ | apply below_alloc | apply pw_below_drewN | apply below_drew1)) (by simp; omega) hB1)
    have hz : w.heap.size < w1.heap.size := blk_lt HB.out
    have hz1 : w.heap.size + 1 < w1.heap.size := blk_lt HT.out
    have p0 : w1.cell? ⟨w.heap.size, 0, none⟩ = some (.int .u8 0) := blk_cell HB.out 0
    have p1 : w1.cell? ⟨w.heap.size, 1, none⟩ = some (.slice none 0 0) := blk_cell HB.out 1
    have p2 : w1.cell? ⟨w.heap.size + 1, 0, none⟩ = some (.int .u8 c) := blk_cell HT.out 0
    have p3 : w1.cell? ⟨w.heap.size + 1, 1, none⟩ = some (.slice none 0 0) := blk_cell HT.out 1
    have q2 : w1.frozen? ⟨w.heap.size, 0, none⟩ = false := blk_frozen HB.out 0
    have q3 : w1.frozen? ⟨w.heap.size, 1, none⟩ = false := blk_frozen HB.out 1
    obtain ⟨A1, k1, rfl⟩ := Kd.R_slice hR1
    clear hR1 hB1
    go_wp2_with (go_at_call 160; refine (strings_CutPrefix.calls _ _ _ _ _ HQ.out).mono ?_; rintro e w2 ⟨rfl, ⟨⟨m, rfl⟩⟩⟩)
    refine bodyPost_ret (results_ctt rfl _ _ w.heap.size 61 #[.int .u8 c, .slice none 0 0] (0, 0) _ rfl (blk_put (blk_put (blk_drewN (blk_alloc HB.out _) _) 0 _ rfl) 1 _ rfl) Tryz.underlying61 rfl (by kernel_rfl)) rfl ?_
    exact ⟨_, rfl, Kd.R_nil _ _ _ _ _, by repeat (first | exact B0.out | apply below_alloc | apply pw_below_drewN | apply below_drew1 | refine below_set ?_ (Nat.le_refl _))⟩
set_option maxHeartbeats 2000000 in
set_option maxRecDepth 100000 in
/-- '(', a term, '+', and whatever stands behind it. -/
theorem impl_takeTerm.at_two (a0 : ByteArray) (w : World) (hs : a0.size ≤ 60) (h0 : 0 < a0.size) (c : Int) (hb : ∀ h : 0 < a0.size, ((a0[0]'h).toNat : Int) = c) (u : Int) (hw : impl_wayOf.f c = some u) (hu : decide (0 ≤ u) = false)
    (e5 : (c == 45) = false) (e6 : (c == 64) = false) (e7 : decide (50 ≤ c) = false) (e8 : (c != 40) = false) (t1 : Int) (t2 : List S61) (t3 : ByteArray)
    (ih : ∀ w, Calls Tryz.prog 108 #[.string (a0.extract 1 a0.size)] w (impl_takeTerm.Post (t1, t2, t3, true) w)) (l1 : ByteArray) (hq : strings_CutPrefix.f t3 ⟨#[43]⟩ = some (l1, true))
    (u1 : Int) (u2 : List S61) (u3 : ByteArray) (u4 : Bool) (ih2 : ∀ w, Calls Tryz.prog 108 #[.string l1] w (impl_takeTerm.Post (u1, u2, u3, u4) w)) (l2 : ByteArray) (q2 : Bool) (hq2 : strings_CutPrefix.f u3 ⟨#[41]⟩ = some (l2, q2)) :
    Calls Tryz.prog 108 #[.string a0] w (impl_takeTerm.Post (c, [⟨t1, t2⟩, ⟨u1, u2⟩], l2, u4 && q2) w) := by
  have hu34 := Tryz.underlying61
  have hd : a0.toList.isEmpty = false := impl_takeTerm.full h0
  have HW := Lib.hid hw
  have IH := Lib.hid ih
  have IH2 := Lib.hid ih2
  have HQ := Lib.hid hq
  have HQ2 := Lib.hid hq2
  clear hw ih hq ih2 hq2
  cases u4
  all_goals
    go_enter Tryz.func108, Tryz.ntmps108
    go_wp2_with (go_at_call 109; refine (impl_wayOf.calls _ _ _ HW.out).mono ?_; rintro e w1 ⟨rfl, ⟨⟨n, rfl⟩⟩⟩)
    refine (IH.out _).mono ?_
    rintro e w1 ⟨v1, rfl, hR1, hB1⟩
    have HB := Lib.hid (blk_below (g := w.heap.size) (o := .cells #[.int .u8 0, .slice none 0 0] 61) (by repeat (first | (refine impl_takeTerm.heap_new ?_; simp; done) | refine blk_alloc ?_ _ | refine blk_drewN ?_ _)) hB1)
    have HT := Lib.hid (blk_below (g := w.heap.size + 1) (o := .cells #[.int .u8 c, .slice none 0 0] 61) (by repeat (first | (refine impl_takeTerm.heap_new ?_; simp; done) | refine blk_alloc ?_ _ | refine blk_drewN ?_ _)) hB1)
    have B0 := Lib.hid (show Below w.heap.size w w1 from below_then (B := w.heap.size) (by repeat (first | exact Below.refl _ _ | apply below_alloc | apply pw_below_drewN | apply below_drew1)) (by simp; omega) hB1)
    have hz : w.heap.size < w1.heap.size := blk_lt HB.out
    have hz1 : w.heap.size + 1 < w1.heap.size := blk_lt HT.out
    obtain ⟨A1, k1, rfl⟩ := Kd.R_slice hR1
    have HR1 := Lib.hid hR1
    clear hR1 hB1
    go_wp2_with (go_at_call 160; refine (strings_CutPrefix.calls _ _ _ _ _ HQ.out).mono ?_; rintro e w2 ⟨rfl, ⟨⟨m, rfl⟩⟩⟩)
    refine (IH2.out _).mono ?_
    rintro e w2 ⟨v2, rfl, hR2, hB2⟩
    have HB2 := Lib.hid (blk_below (blk_drewN (blk_alloc HB.out _) _) hB2)
    have HT2 := Lib.hid (blk_below (blk_drewN (blk_alloc HT.out _) _) hB2)
    have HK := Lib.hid (blk_below (blk_drewN (heap_alloc_new w1 (.cells #[.int .u8 t1, .slice A1 t2.length k1] 61)) _) hB2)
    have HW2 := Lib.hid hB2
    have B2 := Lib.hid (below_then (B := w.heap.size) (pw_below_drewN (below_alloc B0.out _) _) (by simp; omega) hB2)
    have hz2 : w.heap.size < w2.heap.size := blk_lt HB2.out
    have hz3 : w.heap.size + 1 < w2.heap.size := blk_lt HT2.out
    have hz4 : w1.heap.size < w2.heap.size := blk_lt HK.out
    have p0 : w2.cell? ⟨w.heap.size, 0, none⟩ = some (.int .u8 0) := blk_cell HB2.out 0
    have p1 : w2.cell? ⟨w.heap.size, 1, none⟩ = some (.slice none 0 0) := blk_cell HB2.out 1
    have p2 : w2.cell? ⟨w.heap.size + 1, 0, none⟩ = some (.int .u8 c) := blk_cell HT2.out 0
    have p3 : w2.cell? ⟨w.heap.size + 1, 1, none⟩ = some (.slice none 0 0) := blk_cell HT2.out 1
    have p4 : w2.cell? ⟨w1.heap.size, 0, none⟩ = some (.int .u8 t1) := blk_cell HK.out 0
    have p5 : w2.cell? ⟨w1.heap.size, 1, none⟩ = some (.slice A1 t2.length k1) := blk_cell HK.out 1
    have r2 : w2.frozen? ⟨w.heap.size, 0, none⟩ = false := blk_frozen HB2.out 0
    have r3 : w2.frozen? ⟨w.heap.size, 1, none⟩ = false := blk_frozen HB2.out 1
    have r4 : w2.frozen? ⟨w.heap.size + 1, 1, none⟩ = false := blk_frozen HT2.out 1
    obtain ⟨A2, k2, rfl⟩ := Kd.R_slice hR2
    have HR2 := Lib.hid hR2
    clear hR2 hB2
    go_wp2_with (go_at_call 160; refine (strings_CutPrefix.calls _ _ _ _ _ HQ2.out).mono ?_; rintro e w3 ⟨rfl, ⟨⟨m2, rfl⟩⟩⟩)
    refine bodyPost_ret (results_ctt rfl _ _ w.heap.size 61 #[.int .u8 c, .slice (some ⟨w2.heap.size + 1, 0, none⟩) 2 2] (0, 0) _ rfl (blk_alloc (blk_put (blk_put (blk_far (blk_drewN (blk_alloc HB2.out _) _) (by simp) _) 0 _ rfl) 1 _ rfl) _) Tryz.underlying61 rfl (by kernel_rfl)) rfl ?_
    refine ⟨_, rfl, impl_takeTerm.row_two (v := .slice A1 t2.length k1) (u := .slice A2 u2.length k2) ?_ (by omega) (impl_takeTerm.kids_move HR1.out (by simp; omega) (fun k hk hlt => ?_) (by omega)) (impl_takeTerm.kids_move HR2.out (by simp; omega) (fun k hk hlt => ?_) (by omega)), ?_⟩
    · repeat (first | (refine impl_takeTerm.heap_new ?_; simp; done) | refine blk_alloc ?_ _)
    · simp at hk
      rw [Below.heap_alloc _ _ _ (by simp; omega), Below.heap_setCell _ _ _ _ (by simp; omega), Below.heap_setCell _ _ _ _ (by simp; omega), Below.heap_setCell _ _ _ _ (by simp; omega)]
      refine (Below.heap_alloc w2 _ k (by omega)).trans ((HW2.out.block k (by simp; omega)).trans (Below.heap_alloc w1 _ k (by omega)))
    · simp at hk
      rw [Below.heap_alloc _ _ _ (by simp; omega), Below.heap_setCell _ _ _ _ (by simp; omega), Below.heap_setCell _ _ _ _ (by simp; omega), Below.heap_setCell _ _ _ _ (by simp; omega)]
      exact Below.heap_alloc w2 _ k (by omega)
    · exact below_alloc (below_set (below_set (below_set (pw_below_drewN (below_alloc B2.out _) _) (by omega)) (Nat.le_refl _)) (Nat.le_refl _)) _
theorem impl_takeTerm.g_size : ∀ (k : Nat) (s : ByteArray), (impl_takeTerm.g k s).2.2.1.size ≤ s.size ∧ ((impl_takeTerm.g k s).2.2.2 = true → (impl_takeTerm.g k s).2.2.1.size < s.size) := by
  intro k
  have hcut : ∀ c l, (impl_takeTerm.cut c l).1.size ≤ l.size ∧ ((impl_takeTerm.cut c l).2 = true → (impl_takeTerm.cut c l).1.size < l.size) := by
    intro c l
    unfold impl_takeTerm.cut
    split
    · next h => simp only [ByteArray.size_extract]; omega
    · exact ⟨Nat.le_refl _, fun h => by simp at h⟩
  induction k with
  | zero => intro s; exact ⟨Nat.le_refl _, fun h => by simp [impl_takeTerm.g] at h⟩
  | succ k ih =>
    intro s
    have h1 := ih (s.extract 1 s.size)
    have h2 := hcut 43 (impl_takeTerm.g k (s.extract 1 s.size)).2.2.1
    have h3 := ih (impl_takeTerm.cut 43 (impl_takeTerm.g k (s.extract 1 s.size)).2.2.1).1
    have h4 := hcut 41 (impl_takeTerm.g k (impl_takeTerm.cut 43 (impl_takeTerm.g k (s.extract 1 s.size)).2.2.1).1).2.2.1
    have hx : (s.extract 1 s.size).size = s.size - 1 := by simp only [ByteArray.size_extract]; omega
    unfold impl_takeTerm.g
    split
    · exact ⟨Nat.le_refl _, fun h => by simp at h⟩
    · split
      · simp only [hx]; omega
      · split
        · simp only []
          refine ⟨by omega, fun h => ?_⟩
          have := h1.2 h
          omega
        · split
          · simp only [hx]; exact ⟨by omega, fun h => by simp at h⟩
          · split
            · simp only [hx]; exact ⟨by omega, fun h => by simp at h⟩
            · simp only [Bool.and_eq_true]
              refine ⟨by omega, fun h => ?_⟩
              have := h4.2 h.2
              omega
theorem impl_takeTerm.g_succ (k : Nat) (s : ByteArray) : impl_takeTerm.g (k + 1) s =
    if s.size = 0 then (0, [], s, false)
    else if bt s 0 = 101 ∨ bt s 0 = 110 ∨ bt s 0 = 119 ∨ bt s 0 = 115 then (bt s 0, [], s.extract 1 s.size, true)
    else if bt s 0 = 45 ∨ bt s 0 = 64 ∨ (50 ≤ bt s 0 ∧ bt s 0 ≤ 57) then
      (bt s 0, [⟨(impl_takeTerm.g k (s.extract 1 s.size)).1, (impl_takeTerm.g k (s.extract 1 s.size)).2.1⟩], (impl_takeTerm.g k (s.extract 1 s.size)).2.2.1, (impl_takeTerm.g k (s.extract 1 s.size)).2.2.2)
    else if bt s 0 ≠ 40 then (bt s 0, [], s.extract 1 s.size, false)
    else if (impl_takeTerm.g k (s.extract 1 s.size)).2.2.2 = false ∨ (impl_takeTerm.cut 43 (impl_takeTerm.g k (s.extract 1 s.size)).2.2.1).2 = false then (bt s 0, [], s.extract 1 s.size, false)
    else
      (bt s 0, [⟨(impl_takeTerm.g k (s.extract 1 s.size)).1, (impl_takeTerm.g k (s.extract 1 s.size)).2.1⟩, ⟨(impl_takeTerm.g k (impl_takeTerm.cut 43 (impl_takeTerm.g k (s.extract 1 s.size)).2.2.1).1).1, (impl_takeTerm.g k (impl_takeTerm.cut 43 (impl_takeTerm.g k (s.extract 1 s.size)).2.2.1).1).2.1⟩],
        (impl_takeTerm.cut 41 (impl_takeTerm.g k (impl_takeTerm.cut 43 (impl_takeTerm.g k (s.extract 1 s.size)).2.2.1).1).2.2.1).1,
        (impl_takeTerm.g k (impl_takeTerm.cut 43 (impl_takeTerm.g k (s.extract 1 s.size)).2.2.1).1).2.2.2 && (impl_takeTerm.cut 41 (impl_takeTerm.g k (impl_takeTerm.cut 43 (impl_takeTerm.g k (s.extract 1 s.size)).2.2.1).1).2.2.1).2) := rfl
theorem impl_takeTerm.reads : ∀ (k : Nat) (s : ByteArray), s.size ≤ 60 → s.size < k → ∀ w, Calls Tryz.prog 108 #[.string s] w (impl_takeTerm.Post (impl_takeTerm.g k s) w) := by
  intro k
  induction k with
  | zero => intro s _ hk w; omega
  | succ k ih =>
    intro s hs hk w
    rw [impl_takeTerm.g_succ]
    by_cases h0 : s.size = 0
    · rw [if_pos h0]
      refine impl_takeTerm.at_end s w ?_
      rw [Lib.toList_data]
      have := data_length s
      exact List.eq_nil_of_length_eq_zero (by omega)
    · rw [if_neg h0]
      have h0' : 0 < s.size := by omega
      have hb : ∀ h : 0 < s.size, ((s[0]'h).toNat : Int) = bt s 0 := bt_at s 0
      have hr := bt_range s 0
      have hw := impl_takeTerm.way_is (bt s 0) hr.1 hr.2
      have hx : (s.extract 1 s.size).size = s.size - 1 := by simp only [ByteArray.size_extract]; omega
      have ih1 := ih (s.extract 1 s.size) (by omega) (by omega)
      by_cases hc : bt s 0 = 101 ∨ bt s 0 = 110 ∨ bt s 0 = 119 ∨ bt s 0 = 115
      · rw [if_pos hc]
        refine impl_takeTerm.at_leaf s w hs h0' (bt s 0) hb _ hw (decide_eq_true ?_)
        unfold impl_takeTerm.way
        rcases hc with hc | hc | hc | hc <;> rw [hc] <;> decide
      · rw [if_neg hc]
        have hu : decide (0 ≤ impl_takeTerm.way (bt s 0)) = false := by
          unfold impl_takeTerm.way
          rw [if_neg (by omega), if_neg (by omega), if_neg (by omega), if_neg (by omega)]
          rfl
        by_cases hd : bt s 0 = 45 ∨ bt s 0 = 64 ∨ (50 ≤ bt s 0 ∧ bt s 0 ≤ 57)
        · rw [if_pos hd]
          refine impl_takeTerm.at_one' s w hs h0' (bt s 0) hb _ hw hu ?_ (impl_takeTerm.g k (s.extract 1 s.size)) ih1
          by_cases q1 : bt s 0 = 45
          · exact .inl (by simp [q1])
          · by_cases q2 : bt s 0 = 64
            · exact .inr (.inl ⟨by simp [q1], by simp [q2]⟩)
            · exact .inr (.inr ⟨by simp [q1], by simp [q2], decide_eq_true (by omega), decide_eq_true (by omega)⟩)
        · rw [if_neg hd]
          by_cases he : bt s 0 ≠ 40
          · rw [if_pos he]
            refine impl_takeTerm.at_not s w hs h0' (bt s 0) hb _ hw hu (by simp; omega) (by simp; omega) ?_ (by simp [he])
            by_cases h5 : 50 ≤ bt s 0
            · exact .inr ⟨decide_eq_true h5, decide_eq_false (by omega)⟩
            · exact .inl (decide_eq_false h5)
          · rw [if_neg he]
            have hq := impl_takeTerm.cut_is 43 (impl_takeTerm.g k (s.extract 1 s.size)).2.2.1
            have e40 : (bt s 0 != 40) = false := by simp at he; simp [he]
            by_cases hf : (impl_takeTerm.g k (s.extract 1 s.size)).2.2.2 = false ∨ (impl_takeTerm.cut 43 (impl_takeTerm.g k (s.extract 1 s.size)).2.2.1).2 = false
            · rw [if_pos hf]
              refine impl_takeTerm.at_mid s w hs h0' (bt s 0) hb _ hw hu (by simp; omega) (by simp; omega) (decide_eq_false (by omega)) e40 (impl_takeTerm.g k (s.extract 1 s.size)).1 (impl_takeTerm.g k (s.extract 1 s.size)).2.1 (impl_takeTerm.g k (s.extract 1 s.size)).2.2.1 (impl_takeTerm.g k (s.extract 1 s.size)).2.2.2 ih1 _ _ hq ?_
              cases hg : (impl_takeTerm.g k (s.extract 1 s.size)).2.2.2 with
              | false => exact .inl rfl
              | true => rw [hg] at hf; exact .inr ⟨rfl, hf.resolve_left (by simp)⟩
            · rw [if_neg hf]
              have g1 : (impl_takeTerm.g k (s.extract 1 s.size)).2.2.2 = true := by simpa using fun h => hf (.inl h)
              have g2 : (impl_takeTerm.cut 43 (impl_takeTerm.g k (s.extract 1 s.size)).2.2.1).2 = true := by simpa using fun h => hf (.inr h)
              have hz1 := (impl_takeTerm.g_size k (s.extract 1 s.size)).1
              have hz2 : (impl_takeTerm.cut 43 (impl_takeTerm.g k (s.extract 1 s.size)).2.2.1).1.size ≤ (impl_takeTerm.g k (s.extract 1 s.size)).2.2.1.size := by
                unfold impl_takeTerm.cut
                split
                · simp only [ByteArray.size_extract]; omega
                · exact Nat.le_refl _
              refine impl_takeTerm.at_two s w hs h0' (bt s 0) hb _ hw hu (by simp; omega) (by simp; omega) (decide_eq_false (by omega)) e40 (impl_takeTerm.g k (s.extract 1 s.size)).1 (impl_takeTerm.g k (s.extract 1 s.size)).2.1 (impl_takeTerm.g k (s.extract 1 s.size)).2.2.1 ?_ (impl_takeTerm.cut 43 (impl_takeTerm.g k (s.extract 1 s.size)).2.2.1).1 ?_ _ _ _ _ (ih _ (by omega) (by omega)) _ _ (impl_takeTerm.cut_is 41 _)
              · rw [← g1]; exact ih1
              · rw [hq, ← g2]; rfl
theorem impl_takeTerm.calls (a0 : ByteArray) (r1 : Int) (r2 : List S61) (r3 : ByteArray) (r4 : Bool) (w : World) (h : impl_takeTerm.f a0 = some (r1, r2, r3, r4)) :
    Calls Tryz.prog 108 #[.string a0] w fun e w' => ∃ v1_ : Value, e = .returned (.tuple #[.agg #[.int .u8 r1, v1_], .string r3, .bool r4]) ∧ Kd.R k61 61 w' w.heap.size (fun _ => True) v1_ r2 ∧ Below w.heap.size w w' := by
  simp only [impl_takeTerm.f] at h
  split at h
  · next hs =>
    injection h with h
    have hh := impl_takeTerm.reads (a0.size + 1) a0 hs (by omega) w
    rw [h] at hh
    exact hh
  · simp at h

/-! ### impl_readTerm: function 44 -/
def impl_readTerm.f (a0 : ByteArray) : Option (Int × (List (S61)) × Bool) := if (a0.size : Int) > 60 then (some (0, ([] : List (S61)), false)) else ((impl_takeTerm.f a0).bind fun bt107 => (if bt107.2.2.2 = true then (some (bt107.1, bt107.2.1, (bt107.2.2.1.toList == ([] : List UInt8)))) else (some (bt107.1, bt107.2.1, false))))
set_option maxHeartbeats 8000000 in
set_option maxRecDepth 100000 in
theorem impl_readTerm.calls (a0 : ByteArray) (r1 : Int) (r2 : List (S61)) (r3 : Bool) (w : World) (h : impl_readTerm.f a0 = some (r1, r2, r3)) :
    Calls Tryz.prog 44 #[.string a0] w fun e w' => ∃ v1_ : Value, e = .returned (.tuple #[.agg #[.int .u8 r1, v1_], .bool r3]) ∧ Kd.R k61 61 w' w.heap.size (fun _ => True) v1_ r2 ∧ Below w.heap.size w w' := by
  have hu61 := Tryz.underlying61
  have HB := Aside0.mk (Below.refl w.heap.size w)
  have H : (if (a0.size : Int) > 60 then (some (0, ([] : List (S61)), false)) else ((impl_takeTerm.f a0).bind fun bt107 => (if bt107.2.2.2 = true then (some (bt107.1, bt107.2.1, (bt107.2.2.1.toList == ([] : List UInt8)))) else (some (bt107.1, bt107.2.1, false))))) = some (r1, r2, r3) := h
  clear h
  by_cases c2 : (a0.size : Int) > 60
  · rw [if_pos c2] at H
    have c2b0 : decide (60 < (a0.size : Int)) = true := decide_eq_true c2
    have c2b1 : decide (60 < a0.size) = true := decide_eq_true (by omega)
    clear c2
    simp only [Option.some.injEq, Prod.mk.injEq] at H
    obtain ⟨rfl, rfl, rfl⟩ := H
    go_enter Tryz.func44, Tryz.ntmps44
    go_wp2_with (first | ((with_reducible refine gate_dst (N := 2) rfl ?_); refine box_event ?hg (N := 2) ?hd (cs := #[.int .u8 0, .slice none 0 0]) (t := 61) ?hr ?_; (case hd => rfl); (case hg => rfl); (case hr => first | (go_simp; done) | (go_simp; rfl)); intro gb106 hg w3 hbox hb; have n0_ := Aside0.mk (below_step (by repeat (first | (with_reducible first | exact HB.out | apply below_alloc | apply pw_below_drewN | apply below_drew1) | exact HB.out)) hb); have n1_ := Aside0.mk (hbox); have n2_ := Aside0.mk ((by rw [hg]; exact (below_size (by repeat (first | (with_reducible first | exact HB.out | apply below_alloc | apply pw_below_drewN | apply below_drew1) | exact HB.out))) : w.heap.size ≤ gb106)); have n3_ := Aside0.mk ((by rw [hg]; exact (below_size (by repeat (first | (with_reducible first | exact HB.out | apply below_alloc | apply pw_below_drewN | apply below_drew1) | exact HB.out))) : w.heap.size ≤ gb106)); clear HB; have HB := n0_; have BK106 := n1_; have GW106 := n2_; have GE106 := n3_; clear n0_ n1_ n2_ n3_; clear hb hbox hg; have hcz4_0 : w3.cell? ⟨gb106, 0, none⟩ = some (.int .u8 0) := (blk_cell BK106.out 0).trans rfl; have hcz4_1 : w3.cell? ⟨gb106, 1, none⟩ = some (.slice none 0 0) := (blk_cell BK106.out 1).trans rfl; have hfz4_0 := blk_frozen BK106.out 0; have hfz4_1 := blk_frozen BK106.out 1))
    refine bodyPost_ret (results_ct rfl _ _ gb106 61 #[.int .u8 0, .slice none 0 0] (0, 0) _ rfl (by (with_reducible repeat (first | refine blk_drewN ?_ _ | refine blk_drew ?_ | refine blk_alloc ?_ _)); refine blk_put (cs := #[.int .u8 0, .slice none 0 0]) ?_ 1 _ rfl; (with_reducible repeat (first | refine blk_drewN ?_ _ | refine blk_drew ?_ | refine blk_alloc ?_ _)); refine blk_put (cs := #[.int .u8 0, .slice none 0 0]) ?_ 0 _ rfl; (with_reducible repeat (first | refine blk_drewN ?_ _ | refine blk_drew ?_ | refine blk_alloc ?_ _)); exact BK106.out) Tryz.underlying61 rfl (by kernel_rfl)) rfl ?_
    exact ⟨_, by first | rfl | (simp [errW_none, errW_some] <;> rfl) | (simp [*, errW_none, errW_some] <;> rfl) | (exfalso; simp_all; done), by first | exact Kd.R_nil _ _ _ _ _ | exact Kd.N_nil _ _ _ _ _ | exact Kd.V_nil _ _ _ _ _ | exact Kd.Q_nil _ _ _ _ _ | exact Kd.S_nil _ _ _ _ _, by repeat (first | (with_reducible first | exact HB.out | apply below_alloc | apply pw_below_drewN | apply below_drew1 | refine below_set ?_ GE106.out) | exact HB.out)⟩
  · rw [if_neg c2] at H
    have c2b0 : decide (60 < (a0.size : Int)) = false := decide_eq_false c2
    have c2b1 : decide (60 < a0.size) = false := decide_eq_false (by omega)
    clear c2
    replace H := Option.bind_eq_some_iff.mp H
    obtain ⟨⟨t107, t108, t111, t112⟩, A50, H⟩ := H
    replace H : (if t112 = true then (some (t107, t108, (t111.toList == ([] : List UInt8)))) else (some (t107, t108, false))) = some (r1, r2, r3) := H
    have A5 := Aside0.mk A50
    clear A50
    by_cases c6 : t112 = true
    · subst c6
      have H1 : (some (t107, t108, (t111.toList == ([] : List UInt8)))) = some (r1, r2, r3) := by rw [if_pos rfl] at H; exact H
      clear H
      have H := H1
      clear H1
      simp only [Option.some.injEq, Prod.mk.injEq] at H
      obtain ⟨rfl, rfl, rfl⟩ := H
      go_enter Tryz.func44, Tryz.ntmps44
      go_wp2_with (first | ((with_reducible refine gate_dst (N := 2) rfl ?_); refine box_event ?hg (N := 2) ?hd (cs := #[.int .u8 0, .slice none 0 0]) (t := 61) ?hr ?_; (case hd => rfl); (case hg => rfl); (case hr => first | (go_simp; done) | (go_simp; rfl)); intro gb106 hg w7 hbox hb; have n0_ := Aside0.mk (below_step (by repeat (first | (with_reducible first | exact HB.out | apply below_alloc | apply pw_below_drewN | apply below_drew1) | exact HB.out)) hb); have n1_ := Aside0.mk (hbox); have n2_ := Aside0.mk ((by rw [hg]; exact (below_size (by repeat (first | (with_reducible first | exact HB.out | apply below_alloc | apply pw_below_drewN | apply below_drew1) | exact HB.out))) : w.heap.size ≤ gb106)); have n3_ := Aside0.mk ((by rw [hg]; exact (below_size (by repeat (first | (with_reducible first | exact HB.out | apply below_alloc | apply pw_below_drewN | apply below_drew1) | exact HB.out))) : w.heap.size ≤ gb106)); clear HB; have HB := n0_; have BK106 := n1_; have GW106 := n2_; have GE106 := n3_; clear n0_ n1_ n2_ n3_; clear hb hbox hg) | ((with_reducible refine gate_callee (f := 108) rfl ?_); refine goesL_ (some 13) rfl rfl Tryz.func108 (by kernel_rfl) rfl #[.string a0] rfl (by (try simp only [List.map_toArray, List.map_cons, List.map_nil]); first | done | rfl | (simp only [List.length_drop, List.length_take]; rfl)) ?_; (with_reducible refine (impl_takeTerm.calls a0 t107 t108 t111 true _ A5.out).mono ?_); rintro e w8 ⟨v109, rfl, ho0, hb⟩; refine ⟨_, rfl, ?_⟩; have n0_ := Aside0.mk (Kd.R_lower (Kd.R_newB ho0 (g := gb106) (o := .cells #[.int .u8 0, .slice none 0 0] 61 (0, 0)) (by (with_reducible repeat (first | refine blk_drewN ?_ _ | refine blk_drew ?_ | refine blk_alloc ?_ _)); exact BK106.out)) (below_size (by repeat (first | (with_reducible first | exact HB.out | apply below_alloc | apply pw_below_drewN | apply below_drew1 | refine below_set ?_ GE106.out) | exact HB.out)))); have n1_ := Aside0.mk (blk_below (g := gb106) (o := .cells #[.int .u8 0, .slice none 0 0] 61 (0, 0)) (by (with_reducible repeat (first | refine blk_drewN ?_ _ | refine blk_drew ?_ | refine blk_alloc ?_ _)); exact BK106.out) hb); have n2_ := Aside0.mk (below_step (by repeat (first | (with_reducible first | exact HB.out | apply below_alloc | apply pw_below_drewN | apply below_drew1 | refine below_set ?_ GE106.out) | exact HB.out)) hb); clear BK106; clear HB; have HO110 := n0_; have BK106 := n1_; have HB := n2_; clear n0_ n1_ n2_; (try clear hb); (try clear hb2); (try clear hk); (try clear hi); (try clear ho0)) | ((with_reducible refine gate_dst (N := 4) rfl ?_); refine box_event ?hg (N := 4) ?hd (cs := #[.int .u8 0, .slice none 0 0]) (t := 61) ?hr ?_; (case hd => rfl); (case hg => rfl); (case hr => first | (go_simp; done) | (go_simp; rfl)); intro gb113 hg w9 hbox hb; have n0_ := Aside0.mk (Kd.R_below (Kd.R_elderB (by (with_reducible repeat (first | apply Kd.R_alloc | apply Kd.R_drewN | apply Kd.R_drew)); exact HO110.out) gb113 (Nat.le_of_eq hg.symm)) hb); have n1_ := Aside0.mk (blk_below (g := gb106) (o := .cells #[.int .u8 0, .slice none 0 0] 61 (0, 0)) (by (with_reducible repeat (first | refine blk_drewN ?_ _ | refine blk_drew ?_ | refine blk_alloc ?_ _)); exact BK106.out) hb); have n2_ := Aside0.mk (below_step (by repeat (first | (with_reducible first | exact HB.out | apply below_alloc | apply pw_below_drewN | apply below_drew1 | refine below_set ?_ GE106.out) | exact HB.out)) hb); have n3_ := Aside0.mk (hbox); have n4_ := Aside0.mk ((by rw [hg]; exact (below_size (by repeat (first | (with_reducible first | exact HB.out | apply below_alloc | apply pw_below_drewN | apply below_drew1 | refine below_set ?_ GE106.out) | exact HB.out))) : w.heap.size ≤ gb113)); have n5_ := Aside0.mk ((by rw [hg]; exact (below_size (by repeat (first | (with_reducible first | exact HB.out | apply below_alloc | apply pw_below_drewN | apply below_drew1 | refine below_set ?_ GE106.out) | exact HB.out))) : w.heap.size ≤ gb113)); have n6_ := Aside0.mk ((by rw [hg]; exact Nat.ne_of_lt (blk_lt (g := gb106) (o := .cells #[.int .u8 0, .slice none 0 0] 61 (0, 0)) (by (with_reducible repeat (first | refine blk_drewN ?_ _ | refine blk_drew ?_ | refine blk_alloc ?_ _)); exact BK106.out)) : gb106 ≠ gb113)); have n7_ := Aside0.mk ((by rw [hg]; exact Nat.ne_of_gt (blk_lt (g := gb106) (o := .cells #[.int .u8 0, .slice none 0 0] 61 (0, 0)) (by (with_reducible repeat (first | refine blk_drewN ?_ _ | refine blk_drew ?_ | refine blk_alloc ?_ _)); exact BK106.out)) : gb113 ≠ gb106)); clear HO110; clear BK106; clear HB; have HO110 := n0_; have BK106 := n1_; have HB := n2_; have BK113 := n3_; have GW113 := n4_; have GE113 := n5_; have NB106_113 := n6_; have NB113_106 := n7_; clear n0_ n1_ n2_ n3_ n4_ n5_ n6_ n7_; clear hb hbox hg; have hnb10 := NB113_106.out; have hnc10 := NB106_113.out; have hcz11_0 : w9.cell? ⟨gb113, 0, none⟩ = some (.int .u8 0) := (blk_cell BK113.out 0).trans rfl; have hcz11_1 : w9.cell? ⟨gb113, 1, none⟩ = some (.slice none 0 0) := (blk_cell BK113.out 1).trans rfl; have hfz11_0 := blk_frozen BK113.out 0; have hfz11_1 := blk_frozen BK113.out 1; obtain ⟨Ao12, co12, eo12⟩ := Kd.R_slice HO110.out; subst eo12; have hcz13_0 : w9.cell? ⟨gb106, 0, none⟩ = some (.int .u8 0) := (blk_cell BK106.out 0).trans rfl; have hcz13_1 : w9.cell? ⟨gb106, 1, none⟩ = some (.slice none 0 0) := (blk_cell BK106.out 1).trans rfl; have hfz13_0 := blk_frozen BK106.out 0; have hfz13_1 := blk_frozen BK106.out 1))
      refine bodyPost_ret (results_ct rfl _ _ gb106 61 #[.int .u8 t107, .slice Ao12 t108.length co12] (0, 0) _ rfl (by (with_reducible repeat (first | refine blk_drewN ?_ _ | refine blk_drew ?_ | refine blk_alloc ?_ _)); refine blk_put (cs := #[.int .u8 t107, .slice none 0 0]) ?_ 1 _ rfl; (with_reducible repeat (first | refine blk_drewN ?_ _ | refine blk_drew ?_ | refine blk_alloc ?_ _)); refine blk_put (cs := #[.int .u8 0, .slice none 0 0]) ?_ 0 _ rfl; (with_reducible repeat (first | refine blk_drewN ?_ _ | refine blk_drew ?_ | refine blk_alloc ?_ _)); refine blk_far ?_ NB106_113.out _; (with_reducible repeat (first | refine blk_drewN ?_ _ | refine blk_drew ?_ | refine blk_alloc ?_ _)); refine blk_far ?_ NB106_113.out _; (with_reducible repeat (first | refine blk_drewN ?_ _ | refine blk_drew ?_ | refine blk_alloc ?_ _)); exact BK106.out) Tryz.underlying61 rfl (by kernel_rfl)) rfl ?_
      exact ⟨_, by first | rfl | (simp [errW_none, errW_some] <;> rfl) | (simp [*, errW_none, errW_some] <;> rfl) | (exfalso; simp_all; done), by (with_reducible repeat (first | apply Kd.R_alloc | apply Kd.R_drewN | apply Kd.R_drew)); exact Kd.R_mono (Kd.R_far (p := ⟨gb106, 1, none⟩) (Kd.R_far (p := ⟨gb106, 0, none⟩) (Kd.R_far (p := ⟨gb113, 1, none⟩) (Kd.R_far (p := ⟨gb113, 0, none⟩) (Kd.R_mono (Kd.R_mono HO110.out (fun k_ hk => (⟨hk, hk.2⟩ : _ ∧ k_ ≠ gb113))) (fun k_ hk => (⟨hk, hk.1.1.2⟩ : _ ∧ k_ ≠ gb106))) (fun _ hk => hk.1.2) (.int .u8 t107)) (fun _ hk => hk.1.2) (.slice Ao12 t108.length co12)) (fun _ hk => hk.2) (.int .u8 t107)) (fun _ hk => hk.2) (.slice Ao12 t108.length co12)) (fun _ hk => trivial), by repeat (first | (with_reducible first | exact HB.out | apply below_alloc | apply pw_below_drewN | apply below_drew1 | refine below_set ?_ GE106.out | refine below_set ?_ GE113.out) | exact HB.out)⟩
    · replace c6 := Bool.eq_false_iff.mpr c6
      subst c6
      have H1 : (some (t107, t108, false)) = some (r1, r2, r3) := by rw [if_neg (show ¬ (false = true) by decide)] at H; exact H
      clear H
      have H := H1
      clear H1
      simp only [Option.some.injEq, Prod.mk.injEq] at H
      obtain ⟨rfl, rfl, rfl⟩ := H
      go_enter Tryz.func44, Tryz.ntmps44
      go_wp2_with (first | ((with_reducible refine gate_dst (N := 2) rfl ?_); refine box_event ?hg (N := 2) ?hd (cs := #[.int .u8 0, .slice none 0 0]) (t := 61) ?hr ?_; (case hd => rfl); (case hg => rfl); (case hr => first | (go_simp; done) | (go_simp; rfl)); intro gb106 hg w14 hbox hb; have n0_ := Aside0.mk (below_step (by repeat (first | (with_reducible first | exact HB.out | apply below_alloc | apply pw_below_drewN | apply below_drew1) | exact HB.out)) hb); have n1_ := Aside0.mk (hbox); have n2_ := Aside0.mk ((by rw [hg]; exact (below_size (by repeat (first | (with_reducible first | exact HB.out | apply below_alloc | apply pw_below_drewN | apply below_drew1) | exact HB.out))) : w.heap.size ≤ gb106)); have n3_ := Aside0.mk ((by rw [hg]; exact (below_size (by repeat (first | (with_reducible first | exact HB.out | apply below_alloc | apply pw_below_drewN | apply below_drew1) | exact HB.out))) : w.heap.size ≤ gb106)); clear HB; have HB := n0_; have BK106 := n1_; have GW106 := n2_; have GE106 := n3_; clear n0_ n1_ n2_ n3_; clear hb hbox hg) | ((with_reducible refine gate_callee (f := 108) rfl ?_); refine goesL_ (some 13) rfl rfl Tryz.func108 (by kernel_rfl) rfl #[.string a0] rfl (by (try simp only [List.map_toArray, List.map_cons, List.map_nil]); first | done | rfl | (simp only [List.length_drop, List.length_take]; rfl)) ?_; (with_reducible refine (impl_takeTerm.calls a0 t107 t108 t111 false _ A5.out).mono ?_); rintro e w15 ⟨v109, rfl, ho0, hb⟩; refine ⟨_, rfl, ?_⟩; have n0_ := Aside0.mk (Kd.R_lower (Kd.R_newB ho0 (g := gb106) (o := .cells #[.int .u8 0, .slice none 0 0] 61 (0, 0)) (by (with_reducible repeat (first | refine blk_drewN ?_ _ | refine blk_drew ?_ | refine blk_alloc ?_ _)); exact BK106.out)) (below_size (by repeat (first | (with_reducible first | exact HB.out | apply below_alloc | apply pw_below_drewN | apply below_drew1 | refine below_set ?_ GE106.out) | exact HB.out)))); have n1_ := Aside0.mk (blk_below (g := gb106) (o := .cells #[.int .u8 0, .slice none 0 0] 61 (0, 0)) (by (with_reducible repeat (first | refine blk_drewN ?_ _ | refine blk_drew ?_ | refine blk_alloc ?_ _)); exact BK106.out) hb); have n2_ := Aside0.mk (below_step (by repeat (first | (with_reducible first | exact HB.out | apply below_alloc | apply pw_below_drewN | apply below_drew1 | refine below_set ?_ GE106.out) | exact HB.out)) hb); clear BK106; clear HB; have HO110 := n0_; have BK106 := n1_; have HB := n2_; clear n0_ n1_ n2_; (try clear hb); (try clear hb2); (try clear hk); (try clear hi); (try clear ho0)) | ((with_reducible refine gate_dst (N := 4) rfl ?_); refine box_event ?hg (N := 4) ?hd (cs := #[.int .u8 0, .slice none 0 0]) (t := 61) ?hr ?_; (case hd => rfl); (case hg => rfl); (case hr => first | (go_simp; done) | (go_simp; rfl)); intro gb113 hg w16 hbox hb; have n0_ := Aside0.mk (Kd.R_below (Kd.R_elderB (by (with_reducible repeat (first | apply Kd.R_alloc | apply Kd.R_drewN | apply Kd.R_drew)); exact HO110.out) gb113 (Nat.le_of_eq hg.symm)) hb); have n1_ := Aside0.mk (blk_below (g := gb106) (o := .cells #[.int .u8 0, .slice none 0 0] 61 (0, 0)) (by (with_reducible repeat (first | refine blk_drewN ?_ _ | refine blk_drew ?_ | refine blk_alloc ?_ _)); exact BK106.out) hb); have n2_ := Aside0.mk (below_step (by repeat (first | (with_reducible first | exact HB.out | apply below_alloc | apply pw_below_drewN | apply below_drew1 | refine below_set ?_ GE106.out) | exact HB.out)) hb); have n3_ := Aside0.mk (hbox); have n4_ := Aside0.mk ((by rw [hg]; exact (below_size (by repeat (first | (with_reducible first | exact HB.out | apply below_alloc | apply pw_below_drewN | apply below_drew1 | refine below_set ?_ GE106.out) | exact HB.out))) : w.heap.size ≤ gb113)); have n5_ := Aside0.mk ((by rw [hg]; exact (below_size (by repeat (first | (with_reducible first | exact HB.out | apply below_alloc | apply pw_below_drewN | apply below_drew1 | refine below_set ?_ GE106.out) | exact HB.out))) : w.heap.size ≤ gb113)); have n6_ := Aside0.mk ((by rw [hg]; exact Nat.ne_of_lt (blk_lt (g := gb106) (o := .cells #[.int .u8 0, .slice none 0 0] 61 (0, 0)) (by (with_reducible repeat (first | refine blk_drewN ?_ _ | refine blk_drew ?_ | refine blk_alloc ?_ _)); exact BK106.out)) : gb106 ≠ gb113)); have n7_ := Aside0.mk ((by rw [hg]; exact Nat.ne_of_gt (blk_lt (g := gb106) (o := .cells #[.int .u8 0, .slice none 0 0] 61 (0, 0)) (by (with_reducible repeat (first | refine blk_drewN ?_ _ | refine blk_drew ?_ | refine blk_alloc ?_ _)); exact BK106.out)) : gb113 ≠ gb106)); clear HO110; clear BK106; clear HB; have HO110 := n0_; have BK106 := n1_; have HB := n2_; have BK113 := n3_; have GW113 := n4_; have GE113 := n5_; have NB106_113 := n6_; have NB113_106 := n7_; clear n0_ n1_ n2_ n3_ n4_ n5_ n6_ n7_; clear hb hbox hg; have hnb17 := NB113_106.out; have hnc17 := NB106_113.out; have hcz18_0 : w16.cell? ⟨gb113, 0, none⟩ = some (.int .u8 0) := (blk_cell BK113.out 0).trans rfl; have hcz18_1 : w16.cell? ⟨gb113, 1, none⟩ = some (.slice none 0 0) := (blk_cell BK113.out 1).trans rfl; have hfz18_0 := blk_frozen BK113.out 0; have hfz18_1 := blk_frozen BK113.out 1; obtain ⟨Ao19, co19, eo19⟩ := Kd.R_slice HO110.out; subst eo19; have hcz20_0 : w16.cell? ⟨gb106, 0, none⟩ = some (.int .u8 0) := (blk_cell BK106.out 0).trans rfl; have hcz20_1 : w16.cell? ⟨gb106, 1, none⟩ = some (.slice none 0 0) := (blk_cell BK106.out 1).trans rfl; have hfz20_0 := blk_frozen BK106.out 0; have hfz20_1 := blk_frozen BK106.out 1))
      refine bodyPost_ret (results_ct rfl _ _ gb106 61 #[.int .u8 t107, .slice Ao19 t108.length co19] (0, 0) _ rfl (by (with_reducible repeat (first | refine blk_drewN ?_ _ | refine blk_drew ?_ | refine blk_alloc ?_ _)); refine blk_put (cs := #[.int .u8 t107, .slice none 0 0]) ?_ 1 _ rfl; (with_reducible repeat (first | refine blk_drewN ?_ _ | refine blk_drew ?_ | refine blk_alloc ?_ _)); refine blk_put (cs := #[.int .u8 0, .slice none 0 0]) ?_ 0 _ rfl; (with_reducible repeat (first | refine blk_drewN ?_ _ | refine blk_drew ?_ | refine blk_alloc ?_ _)); refine blk_far ?_ NB106_113.out _; (with_reducible repeat (first | refine blk_drewN ?_ _ | refine blk_drew ?_ | refine blk_alloc ?_ _)); refine blk_far ?_ NB106_113.out _; (with_reducible repeat (first | refine blk_drewN ?_ _ | refine blk_drew ?_ | refine blk_alloc ?_ _)); exact BK106.out) Tryz.underlying61 rfl (by kernel_rfl)) rfl ?_
      exact ⟨_, by first | rfl | (simp [errW_none, errW_some] <;> rfl) | (simp [*, errW_none, errW_some] <;> rfl) | (exfalso; simp_all; done), by (with_reducible repeat (first | apply Kd.R_alloc | apply Kd.R_drewN | apply Kd.R_drew)); exact Kd.R_mono (Kd.R_far (p := ⟨gb106, 1, none⟩) (Kd.R_far (p := ⟨gb106, 0, none⟩) (Kd.R_far (p := ⟨gb113, 1, none⟩) (Kd.R_far (p := ⟨gb113, 0, none⟩) (Kd.R_mono (Kd.R_mono HO110.out (fun k_ hk => (⟨hk, hk.2⟩ : _ ∧ k_ ≠ gb113))) (fun k_ hk => (⟨hk, hk.1.1.2⟩ : _ ∧ k_ ≠ gb106))) (fun _ hk => hk.1.2) (.int .u8 t107)) (fun _ hk => hk.1.2) (.slice Ao19 t108.length co19)) (fun _ hk => hk.2) (.int .u8 t107)) (fun _ hk => hk.2) (.slice Ao19 t108.length co19)) (fun _ hk => trivial), by repeat (first | (with_reducible first | exact HB.out | apply below_alloc | apply pw_below_drewN | apply below_drew1 | refine below_set ?_ GE106.out | refine below_set ?_ GE113.out) | exact HB.out)⟩

end Go.Proofs.YtcmpkabpmmmhoaaGreatDoor.PFnExecuteTidy
