/- Execute: a part of what is shown of the program's Execute and the reference's. -/
import Derived.Test.YtlgojeodceiglaaGreatDoorB3
namespace Go.Proofs.YtlgojeodceiglaaGreatDoor.PFnExactExecute
open Go.RowKit Go.Proofs.YtlgojeodceiglaaGreatDoorW.PrintWords Go.Proofs.YtlgojeodceiglaaGreatDoorW.PrintLast Go.Proofs.YtlgojeodceiglaaGreatDoorW.PrintMore
attribute [local go_sem] WO WQ WS WT WM WN WP WR
set_option linter.unusedVariables false
set_option linter.unusedSimpArgs false
set_option maxRecDepth 100000
set_option maxHeartbeats 0
namespace U
theorem Am.mono_l:∀ k,(∀ y0 y1 y2 y3,LeO (Am.l0 k y0 y1 y2 y3) (Am.l0 (k+1) y0 y1 y2 y3))
 | 0=>λ_ _ _ _ r h=>by simp [Am.l0] at h
 | k+1=>by
  have ih0:=Am.mono_l k
  ·intro y0 y1 y2 y3;unfold Am.l0
   repeat' first
   | (with_reducible exact ih0 _ _ _ _)
   | (with_reducible exact LeO.refl _)
   | (with_reducible exact LeO.none _)
   | (with_reducible refine LeO.ite ?_ ?_)
   | (with_reducible refine LeO.bind ?_ (λ_=>?_))
   | exact ih0 _ _ _ _
   | exact LeO.none _
   | refine LeO.ite ?_ ?_
   | refine LeO.bind ?_ (λ_=>?_)
theorem Am.mono:∀ a0 k,LeO (Am.f k a0) (Am.f (k+1) a0):=by
 intro a0 k;have ih0:=Am.mono_l k;unfold Am.f
 repeat' first
   | (with_reducible exact ih0 _ _ _ _)
   | (with_reducible exact LeO.refl _)
   | (with_reducible exact LeO.none _)
   | (with_reducible refine LeO.ite ?_ ?_)
   | (with_reducible refine LeO.bind ?_ (λ_=>?_))
   | exact ih0 _ _ _ _
   | exact LeO.none _
   | refine LeO.ite ?_ ?_
   | refine LeO.bind ?_ (λ_=>?_)
theorem Af.mono_l:∀ k,(∀ y0 y1,LeO (Af.l0 k y0 y1) (Af.l0 (k+1) y0 y1))
 | 0=>λ_ _ r h=>by simp [Af.l0] at h
 | k+1=>by
  have ih0:=Af.mono_l k
  ·intro y0 y1;unfold Af.l0
   repeat' first
   | (with_reducible exact ih0 _ _)
   | (with_reducible exact LeO.refl _)
   | (with_reducible exact LeO.none _)
   | (with_reducible refine LeO.ite ?_ ?_)
   | (with_reducible refine LeO.bind ?_ (λ_=>?_))
   | exact ih0 _ _
   | exact LeO.none _
   | refine LeO.ite ?_ ?_
   | refine LeO.bind ?_ (λ_=>?_)
theorem Af.mono:∀ a0 k,LeO (Af.f k a0) (Af.f (k+1) a0):=by
 intro a0 k;have ih0:=Af.mono_l k;unfold Af.f
 repeat' first
   | (with_reducible exact ih0 _ _)
   | (with_reducible exact LeO.refl _)
   | (with_reducible exact LeO.none _)
   | (with_reducible refine LeO.ite ?_ ?_)
   | (with_reducible refine LeO.bind ?_ (λ_=>?_))
   | exact ih0 _ _
   | exact LeO.none _
   | refine LeO.ite ?_ ?_
   | refine LeO.bind ?_ (λ_=>?_)
theorem AA.mono:∀ a0 k,LeO (AA.f k a0) (AA.f (k+1) a0):=by
 intro a0 k;unfold AA.f
 repeat' first
   | (with_reducible exact Am.mono _ _)
   | (with_reducible exact Af.mono _ _)
   | (with_reducible exact LeO.refl _)
   | (with_reducible exact LeO.none _)
   | (with_reducible refine LeO.ite ?_ ?_)
   | (with_reducible refine LeO.bind ?_ (λ_=>?_))
   | exact Am.mono _ _
   | exact Af.mono _ _
   | exact LeO.none _
   | refine LeO.ite ?_ ?_
   | refine LeO.bind ?_ (λ_=>?_)
theorem BT.mono:∀ a0 k,LeO (BT.f k a0) (BT.f (k+1) a0):=by
 intro a0 k;unfold BT.f
 repeat' first
   | (with_reducible exact AA.mono _ _)
   | (with_reducible exact LeO.refl _)
   | (with_reducible exact LeO.none _)
   | (with_reducible refine LeO.ite ?_ ?_)
   | (with_reducible refine LeO.bind ?_ (λ_=>?_))
   | exact AA.mono _ _
   | exact LeO.none _
   | refine LeO.ite ?_ ?_
   | refine LeO.bind ?_ (λ_=>?_)
theorem CY.mono:∀ a0 k,LeO (CY.f k a0) (CY.f (k+1) a0):=by
 intro a0 k;unfold CY.f
 repeat' first
   | (with_reducible exact BT.mono _ _)
   | (with_reducible exact LeO.refl _)
   | (with_reducible exact LeO.none _)
   | (with_reducible refine LeO.ite ?_ ?_)
   | (with_reducible refine LeO.bind ?_ (λ_=>?_))
   | exact BT.mono _ _
   | exact LeO.none _
   | refine LeO.ite ?_ ?_
   | refine LeO.bind ?_ (λ_=>?_)
theorem BQ.mono_l:∀ k,(∀ y0 y1 y2,LeO (BQ.l0 k y0 y1 y2) (BQ.l0 (k+1) y0 y1 y2))
 | 0=>λ_ _ _ r h=>by simp [BQ.l0] at h
 | k+1=>by
  have ih0:=BQ.mono_l k
  ·intro y0 y1 y2;unfold BQ.l0
   repeat' first
   | (with_reducible exact ih0 _ _ _)
   | (with_reducible exact LeO.refl _)
   | (with_reducible exact LeO.none _)
   | (with_reducible refine LeO.ite ?_ ?_)
   | (with_reducible refine LeO.bind ?_ (λ_=>?_))
   | exact ih0 _ _ _
   | exact LeO.none _
   | refine LeO.ite ?_ ?_
   | refine LeO.bind ?_ (λ_=>?_)
theorem BQ.mono:∀ a0 k,LeO (BQ.f k a0) (BQ.f (k+1) a0):=by
 intro a0 k;have ih0:=BQ.mono_l k;unfold BQ.f
 repeat' first
   | (with_reducible exact ih0 _ _ _)
   | (with_reducible exact LeO.refl _)
   | (with_reducible exact LeO.none _)
   | (with_reducible refine LeO.ite ?_ ?_)
   | (with_reducible refine LeO.bind ?_ (λ_=>?_))
   | exact ih0 _ _ _
   | exact LeO.none _
   | refine LeO.ite ?_ ?_
   | refine LeO.bind ?_ (λ_=>?_)
theorem AW.mono_l:∀ k,(∀ y0 y1 y2,LeO (AW.l0 k y0 y1 y2) (AW.l0 (k+1) y0 y1 y2))
 | 0=>λ_ _ _ r h=>by simp [AW.l0] at h
 | k+1=>by
  have ih0:=AW.mono_l k
  ·intro y0 y1 y2;unfold AW.l0
   repeat' first
   | (with_reducible exact ih0 _ _ _)
   | (with_reducible exact Bd.mono _ _)
   | (with_reducible exact BQ.mono _ _)
   | (with_reducible exact LeO.refl _)
   | (with_reducible exact LeO.none _)
   | (with_reducible refine LeO.ite ?_ ?_)
   | (with_reducible refine LeO.bind ?_ (λ_=>?_))
   | exact ih0 _ _ _
   | exact Bd.mono _ _
   | exact BQ.mono _ _
   | exact LeO.none _
   | refine LeO.ite ?_ ?_
   | refine LeO.bind ?_ (λ_=>?_)
theorem AW.mono:∀ a0 k,LeO (AW.f k a0) (AW.f (k+1) a0):=by
 intro a0 k;have ih0:=AW.mono_l k;unfold AW.f
 repeat' first
   | (with_reducible exact ih0 _ _ _)
   | (with_reducible exact Bd.mono _ _)
   | (with_reducible exact BQ.mono _ _)
   | (with_reducible exact LeO.refl _)
   | (with_reducible exact LeO.none _)
   | (with_reducible refine LeO.ite ?_ ?_)
   | (with_reducible refine LeO.bind ?_ (λ_=>?_))
   | exact ih0 _ _ _
   | exact Bd.mono _ _
   | exact BQ.mono _ _
   | exact LeO.none _
   | refine LeO.ite ?_ ?_
   | refine LeO.bind ?_ (λ_=>?_)
theorem AJ.mono_l:∀ k,(∀ y0 y1 y2 y3,LeO (AJ.l0 k y0 y1 y2 y3) (AJ.l0 (k+1) y0 y1 y2 y3))/\(∀ y0 y1 y2 y3 y4 y5 y6,LeO (AJ.l1 k y0 y1 y2 y3 y4 y5 y6) (AJ.l1 (k+1) y0 y1 y2 y3 y4 y5 y6))
 | 0=>⟨λ_ _ _ _ r h=>by simp [AJ.l0] at h,λ_ _ _ _ _ _ _ r h=>by simp [AJ.l1] at h⟩
 | k+1=>by
  obtain ⟨ih0,ih1⟩:=AJ.mono_l k;refine ⟨?_,?_⟩
  ·intro y0 y1 y2 y3;unfold AJ.l0
   repeat' first
   | exact ih0 _ _ _ _
   | exact ih1 _ _ _ _ _ _ _
   | exact CY.mono _ _
   | exact LeO.refl _
   | exact LeO.none _
   | refine LeO.ite ?_ ?_
   | refine LeO.bind ?_ (λ_=>?_)
  ·intro y0 y1 y2 y3 y4 y5 y6;unfold AJ.l1
   repeat' first
   | exact ih0 _ _ _ _
   | exact ih1 _ _ _ _ _ _ _
   | exact LeO.refl _
   | exact LeO.none _
   | refine LeO.ite ?_ ?_
   | refine LeO.bind ?_ (λ_=>?_)
theorem AJ.mono (a:Int) (k:Nat):LeO (AJ.f k a) (AJ.f (k+1) a):=by
 have ih:=AJ.mono_l k;unfold AJ.f;refine LeO.bind (AB.mono _ _) λ_=>LeO.ite ?_ (LeO.refl _);exact ih.1 _ _ _ _

end U
namespace U
def EN (p:Int):Bool:=decide (AJ.f 40000 p=AW.f 40000 p)
theorem chunk (P:Int->Bool) (s c:Nat) (h:((List.range c).all λn=>P ((n:Int)+(s:Int)))=true) {p:Int} (hp:(s:Int)<=p/\p<(s:Int)+(c:Int)):P p=true:=by
 have:=List.all_eq_true.mp h (p-(s:Int)).toNat (List.mem_range.mpr (by omega));rw [show (((p-(s:Int)).toNat:Nat):Int)+(s:Int)=p by omega] at this;exact this
theorem TG:((List.range 30).all λn=>EN ((n:Int)+((1:Nat):Int)))=true:=by decide +kernel
theorem RR:((List.range 8).all λn=>EN ((n:Int)+((31:Nat):Int)))=true:=by decide +kernel
theorem RT:((List.range 6).all λn=>EN ((n:Int)+((39:Nat):Int)))=true:=by decide +kernel
theorem RU:((List.range 5).all λn=>EN ((n:Int)+((45:Nat):Int)))=true:=by decide +kernel
theorem RW:((List.range 4).all λn=>EN ((n:Int)+((50:Nat):Int)))=true:=by decide +kernel
theorem RX:((List.range 3).all λn=>EN ((n:Int)+((54:Nat):Int)))=true:=by decide +kernel
theorem RY:((List.range 2).all λn=>EN ((n:Int)+((57:Nat):Int)))=true:=by decide +kernel
theorem RZ:((List.range 1).all λn=>EN ((n:Int)+((59:Nat):Int)))=true:=by decide +kernel
theorem R0:((List.range 1).all λn=>EN ((n:Int)+((60:Nat):Int)))=true:=by decide +kernel
theorem TH:((List.range 60).all λn=>okL (AW.f 40000 ((n:Int)+((1:Nat):Int))))=true:=by decide +kernel
theorem P5 {p:Int} (h:1<=p/\p<=60):EN p=true:=by
 by_cases h1:p<31
 ·exact chunk EN 1 30 TG (by omega)
 by_cases h31:p<39
 ·exact chunk EN 31 8 RR (by omega)
 by_cases h39:p<45
 ·exact chunk EN 39 6 RT (by omega)
 by_cases h45:p<50
 ·exact chunk EN 45 5 RU (by omega)
 by_cases h50:p<54
 ·exact chunk EN 50 4 RW (by omega)
 by_cases h54:p<57
 ·exact chunk EN 54 3 RX (by omega)
 by_cases h57:p<59
 ·exact chunk EN 57 2 RY (by omega)
 by_cases h59:p<60
 ·exact chunk EN 59 1 RZ (by omega)
 by_cases h60:p<61
 ·exact chunk EN 60 1 R0 (by omega)
 omega
theorem TF (p:Int):Lls (λk=>AJ.f k p) (λk=>AW.f k p):=by
 by_cases h:1<=p/\p<=60
 ·have g2:=chunk (λp=>okL (AW.f 40000 p)) 1 60 TH (p:=p) (by omega);have g1:AJ.f 40000 p=AW.f 40000 p:=of_decide_eq_true (P5 h);obtain ⟨xs,h1,h2⟩:=OM g2;exact ⟨xs,xs,true,⟨40000,λk hk=>Fb (AJ.mono p) hk (g1.trans h1)⟩,⟨40000,λk hk=>Fb (AW.mono p) hk h1⟩,λ_=>⟨rfl,h2⟩⟩
 ·refine ⟨[],[],false,?_,?_,λh=>by cases h⟩
  ·unfold AJ.f;exact (JY h).1.b (.f (by simp) (.c rfl))
  ·unfold AW.f
   first
    | exact Ev.b (.c (Dv p 1 60)) (.f (by simp;omega) (.c rfl))
    | exact Ev.b (.c rfl) (Ev.b (.c (Dv p 1 60)) (.f (by simp;omega) (.c rfl)))

end U
end Go.Proofs.YtlgojeodceiglaaGreatDoor.PFnExactExecute
