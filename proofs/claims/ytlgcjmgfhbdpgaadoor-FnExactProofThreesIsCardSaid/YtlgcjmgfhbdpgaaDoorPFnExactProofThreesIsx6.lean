/- Written by a program of this claim out of the translation: plain Lean functions and their contracts; what is proved: each Go function of this text comes to what its Lean function says. -/
import Derived.Test.YtlgcjmgfhbdpgaaDoorPFnExactProofThreesIsx0
import Derived.Test.YtlgcjmgfhbdpgaaDoorPFnExactProofThreesIsx1
import Derived.Test.YtlgcjmgfhbdpgaaDoorPFnExactProofThreesIsx3
import Derived.Test.YtlgcjmgfhbdpgaaDoorPFnExactProofThreesIsx5
namespace Go.Proofs.YtlgcjmgfhbdpgaaDoor.PFnExactProofThreesIs
open Go.RowKit Go.Proofs.YtlgcjmgfhbdpgaaDoorW.PrintWords Go.Proofs.YtlgcjmgfhbdpgaaDoorW.PrintLast Go.Proofs.YtlgcjmgfhbdpgaaDoorW.PrintMore
attribute [local go_sem] max2_int min2_int max_two min_two max_three min_three max_four min_four   -- for this text's walks alone
set_option linter.unusedVariables false
set_option linter.unusedSimpArgs false

/-! ### impl_ProofThreesIs: function 12, by hand -/
/-- What a text is as a number, if it is one. -/
def impl_ProofThreesIs.num (s : ByteArray) : Option Int := match Lib.atoiAll s.data.toList with
  | .ok v => some v
  | _ => none
def impl_ProofThreesIs.l0 : Nat → List Int → List ByteArray → List Int → Int → Option (Option (List Int))
  | 0, _, _, _, _ => none
  | k + 1, l, ps, acc, i => if i < (ps.length : Int) then (if 0 ≤ i then (match impl_ProofThreesIs.num (rdOf ByteArray.empty ps i) with
    | none => some none
    | some n => if (⟨(Lib.itoa n).toArray⟩ : ByteArray) = rdOf ByteArray.empty ps i then (if (acc.length : Int) > (l.length : Int) then some none else (if acc.length < 1000 then impl_ProofThreesIs.l0 k l ps (acc ++ [n]) (wrap64 (i + 1)) else none)) else some none) else none) else some (some acc)
def impl_ProofThreesIs.f (k : Nat) (l : List Int) (s : ByteArray) : Option (Int × Bool) := (impl_StickIn.f k l).bind fun t => if t = true then ((strings_Split.f s (⟨#[32]⟩ : ByteArray)).bind fun ps => if (∀ p ∈ ps, p.size ≤ 4194304) then ((impl_ProofThreesIs.l0 k l ps [] 0).bind fun o => match o with
  | none => some (0, false)
  | some list => (impl_PartIs.f k l list).bind fun b => if b = true then ((slices_Max_int_int.f k list).bind fun m => some (wrap64 (m + 1), true)) else some (0, false)) else none) else some (0, false)
theorem impl_ProofThreesIs.mono_l : ∀ k, (∀ y0 y1 y2 y3, LeO (impl_ProofThreesIs.l0 k y0 y1 y2 y3) (impl_ProofThreesIs.l0 (k + 1) y0 y1 y2 y3))
  | 0 => fun _ _ _ _ r h => by simp [impl_ProofThreesIs.l0] at h
  | k + 1 => by
    have ih0 := impl_ProofThreesIs.mono_l k
    intro y0 y1 y2 y3
    rw [impl_ProofThreesIs.l0, impl_ProofThreesIs.l0]
    refine LeO.ite (LeO.ite ?_ (LeO.refl _)) (LeO.refl _)
    cases impl_ProofThreesIs.num (rdOf ByteArray.empty y1 y3) with
    | none => exact LeO.refl _
    | some n => exact LeO.ite (LeO.ite (LeO.refl _) (LeO.ite (ih0 _ _ _ _) (LeO.refl _))) (LeO.refl _)
theorem impl_ProofThreesIs.mono : ∀ a0 a1 k, LeO (impl_ProofThreesIs.f k a0 a1) (impl_ProofThreesIs.f (k + 1) a0 a1) := fun _ _ k => LeO.bind (impl_StickIn.mono _ _) (fun _ => LeO.ite (LeO.bind (LeO.refl _) (fun _ => LeO.ite (LeO.bind (impl_ProofThreesIs.mono_l k _ _ _ _) (fun o => by
  cases o with
  | none => exact LeO.refl _
  | some list => exact LeO.bind (impl_PartIs.mono _ _ _) (fun _ => LeO.ite (LeO.bind (slices_Max_int_int.mono _ _) (fun _ => LeO.refl _)) (LeO.refl _)))) (LeO.refl _))) (LeO.refl _))
theorem impl_ProofThreesIs.neq_no {q p : ByteArray} (h : q = p) : (q.toList == p.toList) = true := by
  rw [h]
  exact beq_iff_eq.mpr rfl
theorem impl_ProofThreesIs.neq_yes {q p : ByteArray} (h : ¬ q = p) : (q.toList == p.toList) = false := by
  rw [beq_eq_false_iff_ne]
  intro he
  rw [Lib.toList_data, Lib.toList_data] at he
  exact h (ByteArray.ext (Array.toList_inj.mp he))
theorem impl_ProofThreesIs.num_range {s : ByteArray} {n : Int} (h : impl_ProofThreesIs.num s = some n) : -9223372036854775808 ≤ n ∧ n ≤ 9223372036854775807 := by
  unfold impl_ProofThreesIs.num at h
  split at h
  · next v hv =>
    obtain rfl := Option.some.inj h
    unfold Lib.atoiAll at hv
    split at hv
    · cases hv
    · dsimp only at hv
      split at hv
      · cases hv
      · cases hv
      · next u hu =>
        split at hv
        · cases hv
        · next h1 =>
          split at hv
          · cases hv
          · next h2 =>
            injection hv with hv
            subst hv
            split
            · next h3 =>
              have : ¬ 9223372036854775808 < u := fun h => h2 ⟨h3, h⟩
              omega
            · next h3 =>
              have : ¬ 9223372036854775808 ≤ u := fun h => h1 ⟨h3, h⟩
              omega
  · cases h
theorem impl_ProofThreesIs.atoi_ok {s : ByteArray} {n : Int} (hs : s.size ≤ 4194304) (h : impl_ProofThreesIs.num s = some n) (w : World) : Calls Tryd.prog 26 #[.string s] w fun e w' => e = .returned (.tuple #[.int .i64 n, .nilIface]) ∧ Below w.heap.size w w' := by
  unfold impl_ProofThreesIs.num at h
  split at h
  · next v hv =>
    obtain rfl := Option.some.inj h
    refine (Go.Proofs.YtlgcjmgfhbdpgaaDoor.Shelf.Tryd.strconv_Atoi_ok s (by omega) v hv w).mono ?_
    rintro e w' ⟨rfl, rfl | ⟨t, rfl⟩⟩
    · exact ⟨rfl, Below.refl _ _⟩
    · exact ⟨rfl, ⟨rfl, rfl, rfl, by rw [Lib.bytesWorld_size]; omega, fun k hk => Lib.bytesWorld_at_old w _ t k hk⟩⟩
  · cases h
theorem impl_ProofThreesIs.atoi_err {s : ByteArray} (hs : s.size ≤ 4194304) (h : impl_ProofThreesIs.num s = none) (w : World) (htab_ : TabW w) : Calls Tryd.prog 26 #[.string s] w fun e w' => ∃ (v : Int) (te : Nat) (pe : Value), e = .returned (.tuple #[.int .i64 v, .iface te pe]) ∧ Below w.heap.size w w' := by
  unfold impl_ProofThreesIs.num at h
  split at h
  · cases h
  · next hv =>
    cases hc : Lib.atoiAll s.data.toList
    case ok v => exact absurd hc (hv v)
    case range =>
      obtain ⟨ev, h1, h2⟩ := htab_.2.2
      refine (Go.Proofs.YtlgcjmgfhbdpgaaDoor.Shelf.Tryd.strconv_Atoi_range s (by omega) hc ev w h1 h2).mono ?_
      rintro e w' ⟨N, rfl, _, _, hb⟩
      exact ⟨_, _, _, rfl, hb⟩
    obtain ⟨ev, h1, h2⟩ := htab_.2.1
    refine (Go.Proofs.YtlgcjmgfhbdpgaaDoor.Shelf.Tryd.strconv_Atoi_syntax s (by omega) hc ev w h1 h2).mono ?_
    rintro e w' ⟨N, rfl, _, _, hb⟩
    exact ⟨_, _, _, rfl, hb⟩
theorem impl_ProofThreesIs.kept {W W1 : World} {base : Nat} {u v : Value} {xs : List ByteArray} {acc : List Int} (hp : Kd.R Kd.string 9 W base (fun _ => True) u xs) (hv : Kd.R (Kd.int .i64) 3 W base (fun _ => True) v acc) (hg : W.grownBy W1 v.ownBlock) : Kd.R Kd.string 9 W1 base (fun _ => True) u xs :=
  Kd.R_mono (Kd.R_step (Kd.R_bound hp) (fun k hk hlt => hg.block k hlt (by
    obtain ⟨_, _, _, q, hq, cells, hc⟩ := hk
    have hq : q = 9 := by simpa [Kd.string, Kd.scalar] using hq
    subst hq
    exact Kd.R_ne hv hc (by decide)))) (fun _ _ => trivial)
theorem impl_ProofThreesIs.sized {ps : List ByteArray} (h : ∀ p ∈ ps, p.size ≤ 4194304) (i : Int) (h0 : 0 ≤ i) (h1 : i < (ps.length : Int)) : (rdOf ByteArray.empty ps i).size ≤ 4194304 := by
  have hl : i.toNat < ps.length := by omega
  refine h _ ?_
  have : rdOf ByteArray.empty ps i = ps[i.toNat] := by simp [rdOf, hl]
  rw [this]
  exact List.getElem_mem hl
set_option maxHeartbeats 8000000 in
set_option maxRecDepth 100000 in
theorem impl_ProofThreesIs.calls (k : Nat) (A0 : Option Addr) (c0 : Nat) (l0 : List Int) (a1 : ByteArray) (r1 : Int) (r2 : Bool) (w : World) (hr0 : Kd.C (Kd.int .i64) w A0 l0.length l0) (hc0 : l0.length ≤ c0) (h : impl_ProofThreesIs.f k l0 a1 = some (r1, r2)) (htab_ : TabW w) :
    Calls Tryd.prog 12 #[.slice A0 l0.length c0, .string a1] w fun e w' => e = .returned (.tuple #[.int .i64 r1, .bool r2]) ∧ Below w.heap.size w w' := by
  have HR0 := Aside0.mk hr0
  have HC0 := Aside0.mk hc0
  have HTAB_ := Aside0.mk htab_
  clear hr0 hc0 htab_
  have HB := Aside0.mk (Below.refl w.heap.size w)
  obtain ⟨t, h1, h⟩ := Option.bind_eq_some_iff.mp h
  have A1 := Aside0.mk h1
  clear h1
  by_cases c0_ : t = true
  · subst c0_
    rw [if_pos rfl] at h
    obtain ⟨ps, h2, h⟩ := Option.bind_eq_some_iff.mp h
    have A2 := Aside0.mk h2
    clear h2
    by_cases hsz : ∀ p ∈ ps, p.size ≤ 4194304
    · rw [if_pos hsz] at h
      have HSZ := Aside0.mk hsz
      clear hsz
      obtain ⟨o, h3, h⟩ := Option.bind_eq_some_iff.mp h
      have A3 := Aside0.mk h3
      have HF := Aside0.mk h
      clear h3 h
      obtain ⟨y0, hy0⟩ : ∃ y_ : List Int, y_ = ([] : List Int) := ⟨_, rfl⟩
      have Ny0 := Aside0.mk hy0
      clear hy0
      go_enter Tryd.func12, Tryd.ntmps12
      go_wp2_with (first
        | (go_at_call 24; refine (impl_StickIn.calls k _ _ l0 true _ (by repeat (first | exact HR0.out | (with_reducible refine Kd.C_alloc ?_ _) | (with_reducible refine Kd.C_drewN ?_ _) | (with_reducible refine Kd.C_drew ?_))) HC0.out A1.out).mono ?_; rintro e w1 ⟨rfl, ⟨⟨n, rfl⟩⟩⟩)
        | ((with_reducible refine gate_dst (N := 14) rfl ?_); (try (refine gate_guard (by rfl) ?_; dsimp only)); refine Kd.R_lit (Kd.int .i64) _ 3 ?hg (N := 14) ?hd (xs := ([] : List Int)) (inner := []) (ok := fun _ => True) (okp := fun _ => True) ?hr ?hp (fun _ hk => hk) trivial (Below.refl _ _) (Nat.le_refl _) (by simp) ?_; (case hd => rfl); (case hg => rfl); (case hr => first | (go_simp; done) | (go_simp; rfl)); (case hp => exact (Reps.none _ _)); intro v14 w14 ho hb hg_ hnew_; clear hg_ hnew_; have n0_ := Aside0.mk (Kd.R_lower ho (below_size (by repeat (first | exact HB.out | apply below_alloc | apply pw_below_drewN | apply below_drew1)))); have n1_ := Aside0.mk (below_step (by repeat (first | exact HB.out | apply below_alloc | apply pw_below_drewN | apply below_drew1)) hb); clear HB; have HO := n0_; have HB := n1_; clear n0_ n1_ ho hb)
        | (go_at_call 25; refine (strings_Split.calls a1 (⟨#[32]⟩ : ByteArray) ps _ A2.out).mono ?_; rintro e w2 ⟨v2, rfl, hr2, hb2⟩; have n0_ := Aside0.mk (Kd.R_below HO.out hb2); have n1_ := Aside0.mk (below_step (by repeat (first | exact HB.out | apply below_alloc | apply pw_below_drewN | apply below_drew1)) hb2); have n2_ := Aside0.mk (Kd.R_lower hr2 (below_size (by repeat (first | exact HB.out | apply below_alloc | apply pw_below_drewN | apply below_drew1)))); clear HO HB hr2 hb2; have HO := n0_; have HB := n1_; have HP := n2_; clear n0_ n1_ n2_; obtain ⟨Ap, cp, rfl⟩ := Kd.R_slice HP.out))
      go_loopg [6, 18] k (fun kq v6 v18 w' => ∃ (acc : List Int) (i : Int), v18 = .int .i64 i ∧ Aside0 (impl_ProofThreesIs.l0 kq l0 ps acc i = some o) ∧ Aside0 (kq ≤ k) ∧ Aside0 (Kd.R (Kd.int .i64) 3 w' w.heap.size (fun _ => True) v6 acc) ∧ Aside0 (Kd.R Kd.string 9 w' w.heap.size (fun _ => True) (.slice Ap ps.length cp) ps) ∧ Aside0 (Below w.heap.size w w'))
      case atStart => exact ⟨[], 0, (by first | rfl | (simp; done) | (simp [*]; done)), A3, ⟨Nat.le_refl _⟩, ⟨by (with_reducible repeat (first | apply Kd.R_alloc | apply Kd.R_drewN | apply Kd.R_drew)); exact HO.out⟩, ⟨by (with_reducible repeat (first | apply Kd.R_alloc | apply Kd.R_drewN | apply Kd.R_drew)); exact HP.out⟩, ⟨(by repeat (first | (with_reducible first | exact HB.out | apply below_alloc | apply pw_below_drewN | apply below_drew1) | exact HB.out))⟩⟩
      case round =>
        clear A3 HO HP HB
        obtain ⟨acc, i, rfl, HA, HK, HO, HP, HB⟩ := hrel
        obtain ⟨wo, rfl⟩ : ∃ x : World, x = wr := ⟨wr, rfl⟩
        cases gk with
        | zero => exact absurd HA.out (by simp [impl_ProofThreesIs.l0])
        | succ k1 =>
          have H := HA.out
          clear HA
          rw [impl_ProofThreesIs.l0] at H
          by_cases c1 : i < (ps.length : Int)
          · rw [if_pos c1] at H
            have c1b : decide (i < (ps.length : Int)) = true := decide_eq_true c1
            by_cases c2 : 0 ≤ i
            · rw [if_pos c2] at H
              have c2b : decide (0 ≤ i) = true := decide_eq_true c2
              obtain ⟨ad, ea, hx⟩ := Kd.at_string (Kd.R_reads' HP.out).2.2 i c2 c1
              cases ea
              have hlt := World.block_lt_of_cell? _ _ hx
              have HSP := Aside0.mk (show (rdOf ByteArray.empty ps i).size ≤ 4194304 from impl_ProofThreesIs.sized HSZ.out i c2 c1)
              obtain ⟨p, hp⟩ : ∃ x, x = rdOf ByteArray.empty ps i := ⟨_, rfl⟩
              rw [← hp] at hx H HSP
              clear hp
              have e1 := eq_true c1
              have e2 := eq_true c2
              clear c1 c2
              cases hn : impl_ProofThreesIs.num p with
              | none =>
                rw [hn] at H
                obtain rfl := Option.some.inj H
                have hf := HF.out
                simp only [Option.some.injEq, Prod.mk.injEq] at hf
                obtain ⟨rfl, rfl⟩ := hf
                have HN := Aside0.mk hn
                clear hn H HF
                go_wp2_with (first | (go_at_call 26; refine (impl_ProofThreesIs.atoi_err HSP.out HN.out _ (HTAB_.out.below (by repeat (first | (with_reducible first | exact HB.out | apply below_alloc | apply pw_below_drewN | apply below_drew1) | exact HB.out)))).mono ?_; rintro e w3 ⟨ve, te, pe, rfl, hb3⟩; have n0_ := Aside0.mk (below_step (by repeat (first | (with_reducible first | exact HB.out | apply below_alloc | apply pw_below_drewN | apply below_drew1) | exact HB.out)) hb3); clear HB hb3; have HB := n0_; clear n0_))
                go_ret2
                exact ⟨rfl, (by repeat (first | (with_reducible first | exact HB.out | apply below_alloc | apply pw_below_drewN | apply below_drew1) | exact HB.out))⟩
              | some n =>
                rw [hn] at H
                dsimp only at H
                have HN := Aside0.mk hn
                obtain ⟨q, hq⟩ : ∃ q : ByteArray, q = ⟨(Lib.itoa n).toArray⟩ := ⟨_, rfl⟩
                have HI := Aside0.mk (show strconv_Itoa_27.f n = some q from by unfold strconv_Itoa_27.f; rw [if_pos (impl_ProofThreesIs.num_range hn), hq])
                rw [← hq] at H
                clear hn hq
                by_cases c3 : q = p
                · rw [if_pos c3] at H
                  have he : (q.toList == p.toList) = true := impl_ProofThreesIs.neq_no c3
                  clear c3
                  by_cases c4 : (acc.length : Int) > (l0.length : Int)
                  · rw [if_pos c4] at H
                    have c4b : decide (l0.length < acc.length) = true := decide_eq_true (by omega)
                    clear c4
                    obtain rfl := Option.some.inj H
                    have hf := HF.out
                    simp only [Option.some.injEq, Prod.mk.injEq] at hf
                    obtain ⟨rfl, rfl⟩ := hf
                    clear H HF
                    obtain ⟨A6, c6, rfl⟩ := Kd.R_slice HO.out
                    go_wp2_with (first | (go_at_call 26; refine (impl_ProofThreesIs.atoi_ok HSP.out HN.out _).mono ?_; rintro e w3 ⟨rfl, hb3⟩; have n0_ := Aside0.mk (below_step (by repeat (first | (with_reducible first | exact HB.out | apply below_alloc | apply pw_below_drewN | apply below_drew1) | exact HB.out)) hb3); have n1_ := Aside0.mk (Kd.R_below HO.out hb3); have n2_ := Aside0.mk (Kd.R_below HP.out hb3); clear HB HO HP hb3; have HB := n0_; have HO := n1_; have HP := n2_; clear n0_ n1_ n2_) | (go_at_call 27; refine (strconv_Itoa_27.calls n q _ HI.out (HTAB_.out.below (by repeat (first | (with_reducible first | exact HB.out | apply below_alloc | apply pw_below_drewN | apply below_drew1) | exact HB.out)))).mono ?_; rintro e w4 ⟨rfl, hb4⟩; have n0_ := Aside0.mk (below_step (by repeat (first | (with_reducible first | exact HB.out | apply below_alloc | apply pw_below_drewN | apply below_drew1) | exact HB.out)) hb4); have n1_ := Aside0.mk (Kd.R_below HO.out hb4); have n2_ := Aside0.mk (Kd.R_below HP.out hb4); clear HB HO HP hb4; have HB := n0_; have HO := n1_; have HP := n2_; clear n0_ n1_ n2_))
                    go_ret2
                    exact ⟨rfl, (by repeat (first | (with_reducible first | exact HB.out | apply below_alloc | apply pw_below_drewN | apply below_drew1) | exact HB.out))⟩
                  · rw [if_neg c4] at H
                    have c4b : decide (l0.length < acc.length) = false := decide_eq_false (by omega)
                    clear c4
                    by_cases c5 : acc.length < 1000
                    · rw [if_pos c5] at H
                      have LM := Aside0.mk c5
                      clear c5
                      have H' := Aside0.mk H
                      clear H HF
                      obtain ⟨A6, c6, rfl⟩ := Kd.R_slice HO.out
                      go_wp2_with (first | (go_at_call 26; refine (impl_ProofThreesIs.atoi_ok HSP.out HN.out _).mono ?_; rintro e w3 ⟨rfl, hb3⟩; have n0_ := Aside0.mk (below_step (by repeat (first | (with_reducible first | exact HB.out | apply below_alloc | apply pw_below_drewN | apply below_drew1) | exact HB.out)) hb3); have n1_ := Aside0.mk (Kd.R_below HO.out hb3); have n2_ := Aside0.mk (Kd.R_below HP.out hb3); clear HB HO HP hb3; have HB := n0_; have HO := n1_; have HP := n2_; clear n0_ n1_ n2_) | (go_at_call 27; refine (strconv_Itoa_27.calls n q _ HI.out (HTAB_.out.below (by repeat (first | (with_reducible first | exact HB.out | apply below_alloc | apply pw_below_drewN | apply below_drew1) | exact HB.out)))).mono ?_; rintro e w4 ⟨rfl, hb4⟩; have n0_ := Aside0.mk (below_step (by repeat (first | (with_reducible first | exact HB.out | apply below_alloc | apply pw_below_drewN | apply below_drew1) | exact HB.out)) hb4); have n1_ := Aside0.mk (Kd.R_below HO.out hb4); have n2_ := Aside0.mk (Kd.R_below HP.out hb4); clear HB HO HP hb4; have HB := n0_; have HO := n1_; have HP := n2_; clear n0_ n1_ n2_) | ((with_reducible refine gate_builtin (b := .append) (xs := #[.tmp 42, .tmp 44]) rfl ?_); at_builtin; refine Kd.R_append (Kd.int .i64) (w0 := w) w.heap.size rfl (.tmp 42) (.tmp 44) 22 3 (.int .i64 0) 8 rfl Tryd.underlying22 info3 rfl (by decide) (by omega) (.slice A6 acc.length c6) acc n [.int .i64 n] (fun _ => True) (fun _ => False) rfl rfl ?aP (fun _ hk => hk.elim) ?aF ?aO ?aB ?aS ?aL ?_; (case aP => exact rfl); (case aB => exact (by repeat (first | (with_reducible first | exact HB.out | apply below_alloc | apply pw_below_drewN | apply below_drew1) | exact HB.out))); (case aF => exact (fun _ _ => trivial)); (case aO => exact (by (with_reducible repeat (first | apply Kd.R_alloc | apply Kd.R_drewN | apply Kd.R_drew)); exact HO.out)); (case aS => exact (Below.size (by repeat (first | (with_reducible first | exact HB.out | apply below_alloc | apply pw_below_drewN | apply below_drew1) | exact HB.out)))); (case aL => have := LM.out; omega); intro v161 w16 ho hb hg hat; have n2_ := Aside0.mk (impl_ProofThreesIs.kept (by (with_reducible repeat (first | apply Kd.R_alloc | apply Kd.R_drewN | apply Kd.R_drew)); exact HP.out) (by (with_reducible repeat (first | apply Kd.R_alloc | apply Kd.R_drewN | apply Kd.R_drew)); exact HO.out) hg); have n0_ := Aside0.mk hb; have n1_ := Aside0.mk ho; clear HB HO HP; have HB := n0_; have HO := n1_; have HP := n2_; clear n0_ n1_ n2_; clear ho hb hg hat))
                      go_roundg k1
                      case measure => have := HK.out; omega
                      case rel => exact ⟨acc ++ [n], wrap64 (i + 1), (by first | rfl | (simp; done) | (simp [*]; done)), H', ⟨by have := HK.out; omega⟩, ⟨by (with_reducible repeat (first | apply Kd.R_alloc | apply Kd.R_drewN | apply Kd.R_drew)); exact HO.out⟩, ⟨by (with_reducible repeat (first | apply Kd.R_alloc | apply Kd.R_drewN | apply Kd.R_drew)); exact HP.out⟩, ⟨(by repeat (first | (with_reducible first | exact HB.out | apply below_alloc | apply pw_below_drewN | apply below_drew1) | exact HB.out))⟩⟩
                    · rw [if_neg c5] at H
                      exact absurd H (by simp)
                · rw [if_neg c3] at H
                  have he : (q.toList == p.toList) = false := impl_ProofThreesIs.neq_yes c3
                  clear c3
                  obtain rfl := Option.some.inj H
                  have hf := HF.out
                  simp only [Option.some.injEq, Prod.mk.injEq] at hf
                  obtain ⟨rfl, rfl⟩ := hf
                  clear H HF
                  go_wp2_with (first | (go_at_call 26; refine (impl_ProofThreesIs.atoi_ok HSP.out HN.out _).mono ?_; rintro e w3 ⟨rfl, hb3⟩; have n0_ := Aside0.mk (below_step (by repeat (first | (with_reducible first | exact HB.out | apply below_alloc | apply pw_below_drewN | apply below_drew1) | exact HB.out)) hb3); have n1_ := Aside0.mk (Kd.R_below HO.out hb3); have n2_ := Aside0.mk (Kd.R_below HP.out hb3); clear HB HO HP hb3; have HB := n0_; have HO := n1_; have HP := n2_; clear n0_ n1_ n2_) | (go_at_call 27; refine (strconv_Itoa_27.calls n q _ HI.out (HTAB_.out.below (by repeat (first | (with_reducible first | exact HB.out | apply below_alloc | apply pw_below_drewN | apply below_drew1) | exact HB.out)))).mono ?_; rintro e w4 ⟨rfl, hb4⟩; have n0_ := Aside0.mk (below_step (by repeat (first | (with_reducible first | exact HB.out | apply below_alloc | apply pw_below_drewN | apply below_drew1) | exact HB.out)) hb4); have n1_ := Aside0.mk (Kd.R_below HO.out hb4); have n2_ := Aside0.mk (Kd.R_below HP.out hb4); clear HB HO HP hb4; have HB := n0_; have HO := n1_; have HP := n2_; clear n0_ n1_ n2_))
                  go_ret2
                  exact ⟨rfl, (by repeat (first | (with_reducible first | exact HB.out | apply below_alloc | apply pw_below_drewN | apply below_drew1) | exact HB.out))⟩
            · rw [if_neg c2] at H
              exact absurd H (by simp)
          · rw [if_neg c1] at H
            have c1b : decide (i < (ps.length : Int)) = false := decide_eq_false c1
            clear c1
            obtain rfl := Option.some.inj H
            have hf := HF.out
            clear H HF
            obtain ⟨b, h4, hf⟩ := Option.bind_eq_some_iff.mp hf
            have A4 := Aside0.mk h4
            obtain ⟨A6, c6, rfl⟩ := Kd.R_slice HO.out
            clear h4
            by_cases c6_ : b = true
            · subst c6_
              rw [if_pos rfl] at hf
              obtain ⟨m, h5, hf⟩ := Option.bind_eq_some_iff.mp hf
              have A5 := Aside0.mk h5
              clear h5
              simp only [Option.some.injEq, Prod.mk.injEq] at hf
              obtain ⟨hm, rfl⟩ := hf
              have hmw : (IntKind.i64.wrap (m + 1)) = r1 := (i64_w _).trans hm
              clear hm
              go_wp2_with (first | (go_at_call 28; refine (impl_PartIs.calls k _ _ l0 A6 c6 acc _ _ (Kd.C_below HR0.out (by repeat (first | (with_reducible first | exact HB.out | apply below_alloc | apply pw_below_drewN | apply below_drew1) | exact HB.out))) HC0.out (Kd.R_reads' HO.out).2.2 (Kd.R_reads' HO.out).2.1 A4.out).mono ?_; rintro e w5 ⟨rfl, hb5⟩; have n0_ := Aside0.mk (below_step (by repeat (first | (with_reducible first | exact HB.out | apply below_alloc | apply pw_below_drewN | apply below_drew1) | exact HB.out)) hb5); have n1_ := Aside0.mk (Kd.R_below HO.out hb5); clear HB HO hb5; have HB := n0_; have HO := n1_; clear n0_ n1_) | (go_at_call 29; refine (slices_Max_int_int.calls k A6 c6 acc m _ (Kd.R_reads' HO.out).2.2 (Kd.R_reads' HO.out).2.1 A5.out).mono ?_; rintro e w6 ⟨rfl, ⟨⟨n6, rfl⟩⟩⟩))
              go_ret2
              exact ⟨rfl, (by repeat (first | (with_reducible first | exact HB.out | apply below_alloc | apply pw_below_drewN | apply below_drew1) | exact HB.out))⟩
            · replace c6_ := Bool.eq_false_iff.mpr c6_
              subst c6_
              rw [if_neg (by decide)] at hf
              simp only [Option.some.injEq, Prod.mk.injEq] at hf
              obtain ⟨rfl, rfl⟩ := hf
              go_wp2_with (first | (go_at_call 28; refine (impl_PartIs.calls k _ _ l0 A6 c6 acc _ _ (Kd.C_below HR0.out (by repeat (first | (with_reducible first | exact HB.out | apply below_alloc | apply pw_below_drewN | apply below_drew1) | exact HB.out))) HC0.out (Kd.R_reads' HO.out).2.2 (Kd.R_reads' HO.out).2.1 A4.out).mono ?_; rintro e w5 ⟨rfl, hb5⟩; have n0_ := Aside0.mk (below_step (by repeat (first | (with_reducible first | exact HB.out | apply below_alloc | apply pw_below_drewN | apply below_drew1) | exact HB.out)) hb5); have n1_ := Aside0.mk (Kd.R_below HO.out hb5); clear HB HO hb5; have HB := n0_; have HO := n1_; clear n0_ n1_))
              go_ret2
              exact ⟨rfl, (by repeat (first | (with_reducible first | exact HB.out | apply below_alloc | apply pw_below_drewN | apply below_drew1) | exact HB.out))⟩
    · rw [if_neg hsz] at h
      exact absurd h (by simp)
  · replace c0_ := Bool.eq_false_iff.mpr c0_
    subst c0_
    rw [if_neg (by decide)] at h
    simp only [Option.some.injEq, Prod.mk.injEq] at h
    obtain ⟨rfl, rfl⟩ := h
    go_enter Tryd.func12, Tryd.ntmps12
    go_wp2_with (first
      | (go_at_call 24; refine (impl_StickIn.calls k _ _ l0 false _ (by repeat (first | exact HR0.out | (with_reducible refine Kd.C_alloc ?_ _) | (with_reducible refine Kd.C_drewN ?_ _) | (with_reducible refine Kd.C_drew ?_))) HC0.out A1.out).mono ?_; rintro e w1 ⟨rfl, ⟨⟨n, rfl⟩⟩⟩))
    go_ret2
    exact ⟨rfl, (by repeat (first | exact HB.out | apply below_alloc | apply pw_below_drewN | apply below_drew1))⟩

/-! ### laws_FnExactProofThreesIs: function 4 -/
def laws_FnExactProofThreesIs.j0 : Nat → List Int → List Int → Bool → Option (Bool)
  | 0, _, _, _ => none
  | k + 1, x0, x7, x38 => if x38 = true then (some false) else ((laws_toIntS.f k x0).bind fun t204 => ((laws_eqIntS.f k x7 t204).bind fun t207 => (if t207 = true then (some true) else (some false))))
def laws_FnExactProofThreesIs.f (k : Nat) (l0 : List Int) (a1 : ByteArray) : Option (Bool) := if (l0.length : Int) > 1048576 then (some true) else (if (a1.size : Int) > 1048576 then (some true) else ((laws_toIntS.f k l0).bind fun t194 => ((spec_ProofThreesIs.f k t194 a1).bind fun bt197 => ((laws_toIntS.f k l0).bind fun t199 => ((impl_ProofThreesIs.f k t199 a1).bind fun bt202 => (if bt202.1 = bt197.1 then (laws_FnExactProofThreesIs.j0 k l0 t199 (bt202.2 != bt197.2)) else (laws_FnExactProofThreesIs.j0 k l0 t199 true)))))))
theorem laws_FnExactProofThreesIs.mono_l : ∀ k, (∀ y0 y1 y2, LeO (laws_FnExactProofThreesIs.j0 k y0 y1 y2) (laws_FnExactProofThreesIs.j0 (k + 1) y0 y1 y2))
  | 0 => fun _ _ _ r h => by simp [laws_FnExactProofThreesIs.j0] at h
  | k + 1 => by
    have ih0 := laws_FnExactProofThreesIs.mono_l k
    · intro y0 y1 y2
      unfold laws_FnExactProofThreesIs.j0
      repeat' first
      | (with_reducible exact ih0 _ _ _)
      | (with_reducible exact impl_ProofThreesIs.mono _ _ _)
      | (with_reducible exact laws_eqIntS.mono _ _ _)
      | (with_reducible exact laws_toIntS.mono _ _)
      | (with_reducible exact spec_ProofThreesIs.mono _ _ _)
      | (with_reducible exact LeO.refl _)
      | (with_reducible exact LeO.none _)
      | (with_reducible refine LeO.ite ?_ ?_)
      | (with_reducible refine LeO.bind ?_ (fun _ => ?_))
      | exact ih0 _ _ _
      | exact impl_ProofThreesIs.mono _ _ _
      | exact laws_eqIntS.mono _ _ _
      | exact laws_toIntS.mono _ _
      | exact spec_ProofThreesIs.mono _ _ _
      | exact LeO.none _
      | refine LeO.ite ?_ ?_
      | refine LeO.bind ?_ (fun _ => ?_)
theorem laws_FnExactProofThreesIs.mono : ∀ a0 a1 k, LeO (laws_FnExactProofThreesIs.f k a0 a1) (laws_FnExactProofThreesIs.f (k + 1) a0 a1) := by
  intro a0 a1 k
  have ih0 := laws_FnExactProofThreesIs.mono_l k
  unfold laws_FnExactProofThreesIs.f
  repeat' first
      | (with_reducible exact ih0 _ _ _)
      | (with_reducible exact impl_ProofThreesIs.mono _ _ _)
      | (with_reducible exact laws_eqIntS.mono _ _ _)
      | (with_reducible exact laws_toIntS.mono _ _)
      | (with_reducible exact spec_ProofThreesIs.mono _ _ _)
      | (with_reducible exact LeO.refl _)
      | (with_reducible exact LeO.none _)
      | (with_reducible refine LeO.ite ?_ ?_)
      | (with_reducible refine LeO.bind ?_ (fun _ => ?_))
      | exact ih0 _ _ _
      | exact impl_ProofThreesIs.mono _ _ _
      | exact laws_eqIntS.mono _ _ _
      | exact laws_toIntS.mono _ _
      | exact spec_ProofThreesIs.mono _ _ _
      | exact LeO.none _
      | refine LeO.ite ?_ ?_
      | refine LeO.bind ?_ (fun _ => ?_)
set_option maxHeartbeats 8000000 in
set_option maxRecDepth 100000 in
theorem laws_FnExactProofThreesIs.calls (k : Nat) (A0 : Option Addr) (c0 : Nat) (l0 : List Int) (a1 : ByteArray) (r : Bool) (w : World) (hr0 : Kd.C (Kd.int .i64) w A0 l0.length l0) (hc0 : l0.length ≤ c0) (h : laws_FnExactProofThreesIs.f k l0 a1 = some r) (htab_ : TabW w) :
    Calls Tryd.prog 4 #[.slice A0 l0.length c0, .string a1] w fun e w' => e = .returned (.bool r) ∧ Below w.heap.size w w' := by
  have HTAB_ := Aside0.mk htab_
  clear htab_
  have HR0 := Aside0.mk hr0
  have HC0 := Aside0.mk hc0
  clear hr0 hc0
  have HB := Aside0.mk (Below.refl w.heap.size w)
  have H : (if (l0.length : Int) > 1048576 then (some true) else (if (a1.size : Int) > 1048576 then (some true) else ((laws_toIntS.f k l0).bind fun t194 => ((spec_ProofThreesIs.f k t194 a1).bind fun bt197 => ((laws_toIntS.f k l0).bind fun t199 => ((impl_ProofThreesIs.f k t199 a1).bind fun bt202 => (if bt202.1 = bt197.1 then (laws_FnExactProofThreesIs.j0 k l0 t199 (bt202.2 != bt197.2)) else (laws_FnExactProofThreesIs.j0 k l0 t199 true)))))))) = some r := h
  clear h
  by_cases c3 : (l0.length : Int) > 1048576
  · rw [if_pos c3] at H
    have c3b0 : decide (1048576 < (l0.length : Int)) = true := decide_eq_true c3
    have c3b1 : decide (1048576 < l0.length) = true := decide_eq_true (by omega)
    clear c3
    obtain rfl := Option.some.inj H
    go_enter Tryd.func4, Tryd.ntmps4
    go_wp2
    go_ret
    exact ⟨by first | rfl | (simp [errW_none, errW_some] <;> rfl) | (simp [*, errW_none, errW_some] <;> rfl) | (exfalso; simp_all; done), by repeat (first | (with_reducible first | exact HB.out | apply below_alloc | apply pw_below_drewN | apply below_drew1) | exact HB.out)⟩
  · rw [if_neg c3] at H
    have c3b0 : decide (1048576 < (l0.length : Int)) = false := decide_eq_false c3
    have c3b1 : decide (1048576 < l0.length) = false := decide_eq_false (by omega)
    clear c3
    by_cases c4 : (a1.size : Int) > 1048576
    · rw [if_pos c4] at H
      have c4b0 : decide (1048576 < (a1.size : Int)) = true := decide_eq_true c4
      have c4b1 : decide (1048576 < a1.size) = true := decide_eq_true (by omega)
      clear c4
      obtain rfl := Option.some.inj H
      go_enter Tryd.func4, Tryd.ntmps4
      go_wp2
      go_ret
      exact ⟨by first | rfl | (simp [errW_none, errW_some] <;> rfl) | (simp [*, errW_none, errW_some] <;> rfl) | (exfalso; simp_all; done), by repeat (first | (with_reducible first | exact HB.out | apply below_alloc | apply pw_below_drewN | apply below_drew1) | exact HB.out)⟩
    · rw [if_neg c4] at H
      have c4b0 : decide (1048576 < (a1.size : Int)) = false := decide_eq_false c4
      have c4b1 : decide (1048576 < a1.size) = false := decide_eq_false (by omega)
      clear c4
      replace H := Option.bind_eq_some_iff.mp H
      obtain ⟨t194, A50, H⟩ := H
      replace H : ((spec_ProofThreesIs.f k t194 a1).bind fun bt197 => ((laws_toIntS.f k l0).bind fun t199 => ((impl_ProofThreesIs.f k t199 a1).bind fun bt202 => (if bt202.1 = bt197.1 then (laws_FnExactProofThreesIs.j0 k l0 t199 (bt202.2 != bt197.2)) else (laws_FnExactProofThreesIs.j0 k l0 t199 true))))) = some r := H
      have A5 := Aside0.mk A50
      clear A50
      replace H := Option.bind_eq_some_iff.mp H
      obtain ⟨⟨t197, t198⟩, A60, H⟩ := H
      replace H : ((laws_toIntS.f k l0).bind fun t199 => ((impl_ProofThreesIs.f k t199 a1).bind fun bt202 => (if bt202.1 = t197 then (laws_FnExactProofThreesIs.j0 k l0 t199 (bt202.2 != t198)) else (laws_FnExactProofThreesIs.j0 k l0 t199 true)))) = some r := H
      have A6 := Aside0.mk A60
      clear A60
      replace H := Option.bind_eq_some_iff.mp H
      obtain ⟨t199, A70, H⟩ := H
      replace H : ((impl_ProofThreesIs.f k t199 a1).bind fun bt202 => (if bt202.1 = t197 then (laws_FnExactProofThreesIs.j0 k l0 t199 (bt202.2 != t198)) else (laws_FnExactProofThreesIs.j0 k l0 t199 true))) = some r := H
      have A7 := Aside0.mk A70
      clear A70
      replace H := Option.bind_eq_some_iff.mp H
      obtain ⟨⟨t202, t203⟩, A80, H⟩ := H
      replace H : (if t202 = t197 then (laws_FnExactProofThreesIs.j0 k l0 t199 (t203 != t198)) else (laws_FnExactProofThreesIs.j0 k l0 t199 true)) = some r := H
      have A8 := Aside0.mk A80
      clear A80
      have HC9 := Aside0.mk H
      clear H
      go_enter Tryd.func4, Tryd.ntmps4
      go_upto_region 8 with (first | ((with_reducible refine gate_callee (f := 8) rfl ?_); refine goesL_ (some 18) rfl rfl Tryd.func8 (by kernel_rfl) rfl #[.slice A0 l0.length c0] rfl (by (try simp only [List.map_toArray, List.map_cons, List.map_nil]); first | done | rfl | (simp only [List.length_drop, List.length_take]; rfl)) ?_; (with_reducible refine (laws_toIntS.calls k _ _ l0 t194 _ ?side1 ?side2 A5.out).mono ?_); (case side1 => repeat (first | exact HR0.out | (with_reducible refine Kd.C_alloc ?_ _) | (with_reducible refine Kd.C_drewN ?_ _) | (with_reducible refine Kd.C_drew ?_))); (case side2 => exact HC0.out); rintro e w10 ⟨v195, rfl, ho0, hb⟩; refine ⟨_, rfl, ?_⟩; have n0_ := Aside0.mk (Kd.R_lower ho0 (below_size (by repeat (first | (with_reducible first | exact HB.out | apply below_alloc | apply pw_below_drewN | apply below_drew1) | exact HB.out)))); have n1_ := Aside0.mk (below_step (by repeat (first | (with_reducible first | exact HB.out | apply below_alloc | apply pw_below_drewN | apply below_drew1) | exact HB.out)) hb); clear HB; have HO196 := n0_; have HB := n1_; clear n0_ n1_; (try clear hb); (try clear hb2); (try clear hk); (try clear hi); (try clear ho0); obtain ⟨Ao11, co11, eo11⟩ := Kd.R_slice HO196.out; subst eo11) | ((with_reducible refine gate_callee (f := 11) rfl ?_); refine goesL_ (some 20) rfl rfl Tryd.func11 (by kernel_rfl) rfl #[.slice Ao11 t194.length co11, .string a1] rfl (by (try simp only [List.map_toArray, List.map_cons, List.map_nil]); first | done | rfl | (simp only [List.length_drop, List.length_take]; rfl)) ?_; (with_reducible refine (spec_ProofThreesIs.calls k _ _ t194 a1 t197 t198 _ ?side1 ?side2 A6.out).mono ?_); (case side1 => repeat (first | exact (Kd.R_reads' HO196.out).2.2 | (with_reducible refine Kd.C_alloc ?_ _) | (with_reducible refine Kd.C_drewN ?_ _) | (with_reducible refine Kd.C_drew ?_))); (case side2 => exact (Kd.R_reads' HO196.out).2.1); rintro e w12 ⟨rfl, hb⟩; refine ⟨_, rfl, ?_⟩; have n0_ := Aside0.mk (Kd.R_below (by (with_reducible repeat (first | apply Kd.R_alloc | apply Kd.R_drewN | apply Kd.R_drew)); exact HO196.out) hb); have n1_ := Aside0.mk (below_step (by repeat (first | (with_reducible first | exact HB.out | apply below_alloc | apply pw_below_drewN | apply below_drew1) | exact HB.out)) hb); clear HO196; clear HB; have HO196 := n0_; have HB := n1_; clear n0_ n1_; (try clear hb); (try clear hb2); (try clear hk); (try clear hi)) | ((with_reducible refine gate_callee (f := 8) rfl ?_); refine goesL_ (some 24) rfl rfl Tryd.func8 (by kernel_rfl) rfl #[.slice A0 l0.length c0] rfl (by (try simp only [List.map_toArray, List.map_cons, List.map_nil]); first | done | rfl | (simp only [List.length_drop, List.length_take]; rfl)) ?_; (with_reducible refine (laws_toIntS.calls k _ _ l0 t199 _ ?side1 ?side2 A7.out).mono ?_); (case side1 => repeat (first | exact (Kd.C_below HR0.out HB.out) | (with_reducible refine Kd.C_alloc ?_ _) | (with_reducible refine Kd.C_drewN ?_ _) | (with_reducible refine Kd.C_drew ?_))); (case side2 => exact HC0.out); rintro e w13 ⟨v200, rfl, ho0, hb⟩; refine ⟨_, rfl, ?_⟩; have n0_ := Aside0.mk (Kd.R_elder' (by (with_reducible repeat (first | apply Kd.R_alloc | apply Kd.R_drewN | apply Kd.R_drew)); exact HO196.out) (Kd.R_base ho0) hb); have n1_ := Aside0.mk (Kd.R_lower (Kd.R_new' ho0 (Kd.R_lt (by (with_reducible repeat (first | apply Kd.R_alloc | apply Kd.R_drewN | apply Kd.R_drew)); exact HO196.out))) (below_size (by repeat (first | (with_reducible first | exact HB.out | apply below_alloc | apply pw_below_drewN | apply below_drew1) | exact HB.out)))); have n2_ := Aside0.mk (below_step (by repeat (first | (with_reducible first | exact HB.out | apply below_alloc | apply pw_below_drewN | apply below_drew1) | exact HB.out)) hb); clear HO196; clear HB; have HO196 := n0_; have HO201 := n1_; have HB := n2_; clear n0_ n1_ n2_; (try clear hb); (try clear hb2); (try clear hk); (try clear hi); (try clear ho0); obtain ⟨Ao14, co14, eo14⟩ := Kd.R_slice HO201.out; subst eo14) | ((with_reducible refine gate_callee (f := 12) rfl ?_); refine goesL_ (some 28) rfl rfl Tryd.func12 (by kernel_rfl) rfl #[.slice Ao14 t199.length co14, .string a1] rfl (by (try simp only [List.map_toArray, List.map_cons, List.map_nil]); first | done | rfl | (simp only [List.length_drop, List.length_take]; rfl)) ?_; (with_reducible refine (impl_ProofThreesIs.calls k _ _ t199 a1 t202 t203 _ ?side1 ?side2 A8.out (TabW.below HTAB_.out (by repeat (first | (with_reducible first | exact HB.out | apply below_alloc | apply pw_below_drewN | apply below_drew1) | exact HB.out)))).mono ?_); (case side1 => repeat (first | exact (Kd.R_reads' HO201.out).2.2 | (with_reducible refine Kd.C_alloc ?_ _) | (with_reducible refine Kd.C_drewN ?_ _) | (with_reducible refine Kd.C_drew ?_))); (case side2 => exact (Kd.R_reads' HO201.out).2.1); rintro e w15 ⟨rfl, hb⟩; refine ⟨_, rfl, ?_⟩; have n0_ := Aside0.mk (Kd.R_below (by (with_reducible repeat (first | apply Kd.R_alloc | apply Kd.R_drewN | apply Kd.R_drew)); exact HO196.out) hb); have n1_ := Aside0.mk (Kd.R_below (by (with_reducible repeat (first | apply Kd.R_alloc | apply Kd.R_drewN | apply Kd.R_drew)); exact HO201.out) hb); have n2_ := Aside0.mk (below_step (by repeat (first | (with_reducible first | exact HB.out | apply below_alloc | apply pw_below_drewN | apply below_drew1) | exact HB.out)) hb); clear HO196; clear HO201; clear HB; have HO196 := n0_; have HO201 := n1_; have HB := n2_; clear n0_ n1_ n2_; (try clear hb); (try clear hb2); (try clear hk); (try clear hi)))
      (try simp only [Act.put, List.setIfInBounds_toArray, List.set_cons_zero, List.set_cons_succ])
      go_cut [38] (fun v38 wc => ∃ (kq : Nat) (x38_8 : Bool), v38 = .bool x38_8 ∧ Aside0 (laws_FnExactProofThreesIs.j0 kq l0 t199 x38_8 = some r) ∧ Aside0 (kq ≤ k) ∧ Aside0 (Kd.R (Kd.int .i64) 3 wc w.heap.size (fun _ => True) (.slice Ao14 t199.length co14) t199) ∧ Aside0 (Below w.heap.size w wc))
      case first =>
        have H := HC9.out
        clear HC9
        by_cases c16 : t202 = t197
        · rw [if_pos c16] at H
          have c16b0 : (t202 == t197) = true := beq_iff_eq.mpr c16
          have c16b1 : (t202 != t197) = false := bne_eq_false_iff_eq.mpr c16
          clear c16
          (first | rw [c16b0] | (simp only [i64_w, i32_w]; rw [c16b0]) | skip)
          have H' := Aside0.mk H
          clear H
          go_wp2
          go_meet
          case rel => exact ⟨_, ((t203 != t198)), (by first | rfl | (simp; done) | (simp [*]; done)), H', ⟨by first | omega | exact Nat.le_refl _⟩, ⟨by (with_reducible repeat (first | apply Kd.R_alloc | apply Kd.R_drewN | apply Kd.R_drew)); exact Kd.R_mono HO201.out (fun _ hk => trivial)⟩, ⟨by repeat (first | (with_reducible first | exact HB.out | apply below_alloc | apply pw_below_drewN | apply below_drew1) | exact HB.out)⟩⟩
        · rw [if_neg c16] at H
          have c16b0 : (t202 == t197) = false := beq_eq_false_iff_ne.mpr c16
          have c16b1 : (t202 != t197) = true := bne_iff_ne.mpr c16
          (first | rw [c16b0] | (simp only [i64_w, i32_w]; rw [c16b0]) | skip)
          have H' := Aside0.mk H
          clear H
          go_wp2
          go_meet
          case rel => exact ⟨_, (true), (by first | rfl | (simp; done) | (simp [*]; done)), H', ⟨by first | omega | exact Nat.le_refl _⟩, ⟨by (with_reducible repeat (first | apply Kd.R_alloc | apply Kd.R_drewN | apply Kd.R_drew)); exact Kd.R_mono HO201.out (fun _ hk => trivial)⟩, ⟨by repeat (first | (with_reducible first | exact HB.out | apply below_alloc | apply pw_below_drewN | apply below_drew1) | exact HB.out)⟩⟩
      case rest =>
        clear HC9
        try clear c1
        try clear p2
        try clear c3
        try clear c3b0
        try clear c3b1
        try clear c4
        try clear c4b0
        try clear c4b1
        try clear c8
        try clear c11
        try clear c12
        try clear c16
        try clear c16b0
        try clear c16b1
        obtain ⟨kq, x38_8, rfl, HA, HJ8, HO_7, HB⟩ := hcut
        cases kq with
        | zero => exact absurd HA.out (by simp [laws_FnExactProofThreesIs.j0])
        | succ kj8 =>
          have H := HA.out
          clear HA
          simp only [laws_FnExactProofThreesIs.j0] at H
          by_cases c17 : x38_8 = true
          · subst c17
            have H1 : (some false) = some r := by rw [if_pos rfl] at H; exact H
            clear H
            have H := H1
            clear H1
            obtain rfl := Option.some.inj H
            go_wp2
            go_ret
            exact ⟨by first | rfl | (simp [errW_none, errW_some] <;> rfl) | (simp [*, errW_none, errW_some] <;> rfl) | (exfalso; simp_all; done), by repeat (first | (with_reducible first | exact HB.out | apply below_alloc | apply pw_below_drewN | apply below_drew1) | exact HB.out)⟩
          · replace c17 := Bool.eq_false_iff.mpr c17
            subst c17
            have H1 : ((laws_toIntS.f kj8 l0).bind fun t204 => ((laws_eqIntS.f kj8 t199 t204).bind fun t207 => (if t207 = true then (some true) else (some false)))) = some r := by rw [if_neg (show ¬ (false = true) by decide)] at H; exact H
            clear H
            have H := H1
            clear H1
            replace H := Option.bind_eq_some_iff.mp H
            obtain ⟨t204, A180, H⟩ := H
            replace H : ((laws_eqIntS.f kj8 t199 t204).bind fun t207 => (if t207 = true then (some true) else (some false))) = some r := H
            have A18 := Aside0.mk A180
            clear A180
            replace H := Option.bind_eq_some_iff.mp H
            obtain ⟨t207, A190, H⟩ := H
            replace H : (if t207 = true then (some true) else (some false)) = some r := H
            have A19 := Aside0.mk A190
            clear A190
            by_cases c20 : t207 = true
            · subst c20
              have H1 : (some true) = some r := by rw [if_pos rfl] at H; exact H
              clear H
              have H := H1
              clear H1
              obtain rfl := Option.some.inj H
              go_wp2_with (first | ((with_reducible refine gate_callee (f := 8) rfl ?_); refine goesL_ (some 41) rfl rfl Tryd.func8 (by kernel_rfl) rfl #[.slice A0 l0.length c0] rfl (by (try simp only [List.map_toArray, List.map_cons, List.map_nil]); first | done | rfl | (simp only [List.length_drop, List.length_take]; rfl)) ?_; (with_reducible refine (laws_toIntS.calls kj8 _ _ l0 t204 _ ?side1 ?side2 A18.out).mono ?_); (case side1 => repeat (first | exact (Kd.C_below HR0.out HB.out) | (with_reducible refine Kd.C_alloc ?_ _) | (with_reducible refine Kd.C_drewN ?_ _) | (with_reducible refine Kd.C_drew ?_))); (case side2 => exact HC0.out); rintro e w21 ⟨v205, rfl, ho0, hb⟩; refine ⟨_, rfl, ?_⟩; have n0_ := Aside0.mk (Kd.R_elder' (by (with_reducible repeat (first | apply Kd.R_alloc | apply Kd.R_drewN | apply Kd.R_drew)); exact HO_7.out) (Kd.R_base ho0) hb); have n1_ := Aside0.mk (Kd.R_lower (Kd.R_new' ho0 (Kd.R_lt (by (with_reducible repeat (first | apply Kd.R_alloc | apply Kd.R_drewN | apply Kd.R_drew)); exact HO_7.out))) (below_size (by repeat (first | (with_reducible first | exact HB.out | apply below_alloc | apply pw_below_drewN | apply below_drew1) | exact HB.out)))); have n2_ := Aside0.mk (below_step (by repeat (first | (with_reducible first | exact HB.out | apply below_alloc | apply pw_below_drewN | apply below_drew1) | exact HB.out)) hb); clear HO_7; clear HB; have HO_7 := n0_; have HO206 := n1_; have HB := n2_; clear n0_ n1_ n2_; (try clear hb); (try clear hb2); (try clear hk); (try clear hi); (try clear ho0); obtain ⟨Ao22, co22, eo22⟩ := Kd.R_slice HO206.out; subst eo22) | ((with_reducible refine gate_callee (f := 10) rfl ?_); refine goesL_ (some 42) rfl rfl Tryd.func10 (by kernel_rfl) rfl #[.slice Ao14 t199.length co14, .slice Ao22 t204.length co22] rfl (by (try simp only [List.map_toArray, List.map_cons, List.map_nil]); first | done | rfl | (simp only [List.length_drop, List.length_take]; rfl)) ?_; (with_reducible refine (laws_eqIntS.calls kj8 _ _ t199 _ _ t204 true _ ?side1 ?side2 ?side3 ?side4 A19.out).mono ?_); (case side1 => repeat (first | exact (Kd.R_reads' HO_7.out).2.2 | (with_reducible refine Kd.C_alloc ?_ _) | (with_reducible refine Kd.C_drewN ?_ _) | (with_reducible refine Kd.C_drew ?_))); (case side2 => exact (Kd.R_reads' HO_7.out).2.1); (case side3 => repeat (first | exact (Kd.R_reads' HO206.out).2.2 | (with_reducible refine Kd.C_alloc ?_ _) | (with_reducible refine Kd.C_drewN ?_ _) | (with_reducible refine Kd.C_drew ?_))); (case side4 => exact (Kd.R_reads' HO206.out).2.1); rintro e w' ⟨rfl, ⟨nd, rfl⟩⟩; refine ⟨_, rfl, ?_⟩))
              go_ret
              exact ⟨by first | rfl | (simp [errW_none, errW_some] <;> rfl) | (simp [*, errW_none, errW_some] <;> rfl) | (exfalso; simp_all; done), by repeat (first | (with_reducible first | exact HB.out | apply below_alloc | apply pw_below_drewN | apply below_drew1) | exact HB.out)⟩
            · replace c20 := Bool.eq_false_iff.mpr c20
              subst c20
              have H1 : (some false) = some r := by rw [if_neg (show ¬ (false = true) by decide)] at H; exact H
              clear H
              have H := H1
              clear H1
              obtain rfl := Option.some.inj H
              go_wp2_with (first | ((with_reducible refine gate_callee (f := 8) rfl ?_); refine goesL_ (some 41) rfl rfl Tryd.func8 (by kernel_rfl) rfl #[.slice A0 l0.length c0] rfl (by (try simp only [List.map_toArray, List.map_cons, List.map_nil]); first | done | rfl | (simp only [List.length_drop, List.length_take]; rfl)) ?_; (with_reducible refine (laws_toIntS.calls kj8 _ _ l0 t204 _ ?side1 ?side2 A18.out).mono ?_); (case side1 => repeat (first | exact (Kd.C_below HR0.out HB.out) | (with_reducible refine Kd.C_alloc ?_ _) | (with_reducible refine Kd.C_drewN ?_ _) | (with_reducible refine Kd.C_drew ?_))); (case side2 => exact HC0.out); rintro e w23 ⟨v205, rfl, ho0, hb⟩; refine ⟨_, rfl, ?_⟩; have n0_ := Aside0.mk (Kd.R_elder' (by (with_reducible repeat (first | apply Kd.R_alloc | apply Kd.R_drewN | apply Kd.R_drew)); exact HO_7.out) (Kd.R_base ho0) hb); have n1_ := Aside0.mk (Kd.R_lower (Kd.R_new' ho0 (Kd.R_lt (by (with_reducible repeat (first | apply Kd.R_alloc | apply Kd.R_drewN | apply Kd.R_drew)); exact HO_7.out))) (below_size (by repeat (first | (with_reducible first | exact HB.out | apply below_alloc | apply pw_below_drewN | apply below_drew1) | exact HB.out)))); have n2_ := Aside0.mk (below_step (by repeat (first | (with_reducible first | exact HB.out | apply below_alloc | apply pw_below_drewN | apply below_drew1) | exact HB.out)) hb); clear HO_7; clear HB; have HO_7 := n0_; have HO206 := n1_; have HB := n2_; clear n0_ n1_ n2_; (try clear hb); (try clear hb2); (try clear hk); (try clear hi); (try clear ho0); obtain ⟨Ao24, co24, eo24⟩ := Kd.R_slice HO206.out; subst eo24) | ((with_reducible refine gate_callee (f := 10) rfl ?_); refine goesL_ (some 42) rfl rfl Tryd.func10 (by kernel_rfl) rfl #[.slice Ao14 t199.length co14, .slice Ao24 t204.length co24] rfl (by (try simp only [List.map_toArray, List.map_cons, List.map_nil]); first | done | rfl | (simp only [List.length_drop, List.length_take]; rfl)) ?_; (with_reducible refine (laws_eqIntS.calls kj8 _ _ t199 _ _ t204 false _ ?side1 ?side2 ?side3 ?side4 A19.out).mono ?_); (case side1 => repeat (first | exact (Kd.R_reads' HO_7.out).2.2 | (with_reducible refine Kd.C_alloc ?_ _) | (with_reducible refine Kd.C_drewN ?_ _) | (with_reducible refine Kd.C_drew ?_))); (case side2 => exact (Kd.R_reads' HO_7.out).2.1); (case side3 => repeat (first | exact (Kd.R_reads' HO206.out).2.2 | (with_reducible refine Kd.C_alloc ?_ _) | (with_reducible refine Kd.C_drewN ?_ _) | (with_reducible refine Kd.C_drew ?_))); (case side4 => exact (Kd.R_reads' HO206.out).2.1); rintro e w' ⟨rfl, ⟨nd, rfl⟩⟩; refine ⟨_, rfl, ?_⟩))
              go_ret
              exact ⟨by first | rfl | (simp [errW_none, errW_some] <;> rfl) | (simp [*, errW_none, errW_some] <;> rfl) | (exfalso; simp_all; done), by repeat (first | (with_reducible first | exact HB.out | apply below_alloc | apply pw_below_drewN | apply below_drew1) | exact HB.out)⟩

/-- THE ONE PURE STATEMENT of laws_FnExactProofThreesIs: yours. -/
def laws_FnExactProofThreesIs.Pure : Prop := ∀ (l0 : List Int) (a1 : ByteArray), l0.length ≤ maxLen → l0.length * 8 ≤ 140737488351232 → (∀ x ∈ l0, (Lit.int .i64 x).wf = true) → a1.size ≤ 140737488351232 → ∃ k, laws_FnExactProofThreesIs.f k l0 a1 = some true
theorem laws_FnExactProofThreesIs.walk (P : laws_FnExactProofThreesIs.Pure) (a0 : Option Addr) (len0 cap0 : Nat) (z0 : List Int) (a1 : ByteArray) (w : World) (htab_ : TabW w) (w0 : (a0 = none ∧ len0 = 0 ∧ cap0 = 0 ∧ z0 = []) ∨ ∃ x, a0 = some x ∧ len0 ≤ cap0 ∧ cap0 ≤ maxLen ∧ z0.length = cap0 ∧ (∀ i, i < z0.length → w.cell? (x.add i) = some (.int .i64 (z0.getD i 0))) ∧ ∀ n ∈ z0, (Lit.int .i64 n).wf = true) (y0 : len0 * 8 ≤ 140737488351232) (w1 : a1.size ≤ 140737488351232) :
    Calls Tryd.prog 4 #[.slice a0 len0 cap0, .string a1] w fun e w' => e = .returned (.bool true) ∧ Below w.heap.size w w' := by
  obtain ⟨l0, rfl, hr0, hm0, hw0, hc0⟩ := ReadsInt.ofRowC w0
  obtain ⟨k, h⟩ := P l0 a1 hm0 y0 hw0 w1
  refine (laws_FnExactProofThreesIs.calls k _ _ l0 a1 true w (Kd.C_of_reads (d := (0 : Int)) (h1 := fun _ => rfl) hr0) hc0 h htab_).mono ?_
  rintro e w' ⟨rfl, hd⟩
  exact ⟨rfl, hd⟩

end Go.Proofs.YtlgcjmgfhbdpgaaDoor.PFnExactProofThreesIs
