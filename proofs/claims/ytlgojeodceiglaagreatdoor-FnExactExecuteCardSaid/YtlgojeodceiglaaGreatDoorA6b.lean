/- Execute: a part of what is shown of the program's Execute and the reference's. -/
import Derived.Test.YtlgojeodceiglaaGreatDoorA6a
namespace Go.Proofs.YtlgojeodceiglaaGreatDoor.PFnExactExecute
open Go.RowKit Go.Proofs.YtlgojeodceiglaaGreatDoorW.PrintWords Go.Proofs.YtlgojeodceiglaaGreatDoorW.PrintLast Go.Proofs.YtlgojeodceiglaaGreatDoorW.PrintMore
attribute [local go_sem] WO WQ WS WT WM WN WP WR
set_option linter.unusedVariables false
set_option linter.unusedSimpArgs false
set_option maxRecDepth 100000
set_option maxHeartbeats 0
section
theorem Ef.ct {k:Nat} {p0:List Int} {p1:ByteArray} {r0:ByteArray}:Ef.f k p0 p1=some r0->Ct 81 [.f .i p0,.s p1] [.s r0]:=by
 refine Ax Tryz.func81 rfl rfl rfl rfl ?_;unfold Ef.f
 repeat' first
  | refine stp ?_
  | (with_reducible refine spr ?_;rintro ⟨⟩)
  | with_reducible refine And.intro ?_ ?_
  | intro h
  | refine RK.call (BG.ct (by assumption)) rfl rfl rfl ?_
  | refine RK.call (En.ct (by assumption)) rfl rfl rfl ?_
  | refine RK.call (Bq.ct (by assumption)) rfl rfl rfl ?_
  | refine RK.call (DP.ct (by assumption)) rfl rfl rfl ?_
  | refine RK.call (Bg.ct (by assumption)) rfl rfl rfl ?_
  | refine RK.call (Ar.ct (by assumption)) rfl rfl rfl ?_
  | refine RK.call (DO.ct (by assumption)) rfl rfl rfl ?_
  | refine RK.call (EM.ct (by assumption)) rfl rfl rfl ?_
  | refine RK.call (CT.ct (by assumption)) rfl rfl rfl ?_
  | refine RK.call (EK.ct (by assumption)) rfl rfl rfl ?_
  | refine RK.call (EL.ct (by assumption)) rfl rfl rfl ?_
  | refine RK.call (EJ.ct (by assumption)) rfl rfl rfl ?_
  | refine RK.call (Em.ct (by assumption)) rfl rfl rfl ?_
  | refine RK.call (D9.ct (by assumption)) rfl rfl rfl ?_
  | refine RK.call (EI.ct (by assumption)) rfl rfl rfl ?_
  | refine RK.call (DT.ct (by assumption)) rfl rfl rfl ?_
  | refine RK.call (D8.ct (by assumption)) rfl rfl rfl ?_
  | refine RK.call (D0.ct (by assumption)) rfl rfl rfl ?_
  | refine RK.call (DH.ct (by assumption)) rfl rfl rfl ?_
  | refine RK.call (Bs.ct (by assumption)) rfl rfl rfl ?_
  | refine RK.call (Cl.ct (by assumption)) rfl rfl rfl ?_
  | refine RK.call (Df.ct (by assumption)) rfl rfl rfl ?_
  | refine RK.call (ER.ct (by assumption)) rfl rfl rfl ?_
  | refine rks ?_
  | exact (rfl:_=_)
  | fail
theorem BR.ct {k:Nat} {p0:List (List Int)} {p1:Bool} {r0:ByteArray}:BR.f k p0 p1=some r0->Ct 154 [.f .l p0,.b p1] [.s r0]:=by
 refine Ax Tryz.func154 rfl rfl rfl rfl ?_;unfold BR.f
 repeat' first
  | refine stp ?_
  | (with_reducible refine spr ?_;rintro ⟨⟩)
  | with_reducible refine And.intro ?_ ?_
  | intro h
  | refine RK.call (Cq.ct (by assumption)) rfl rfl rfl ?_
  | refine rks ?_
  | exact (rfl:_=_)
  | (refine BA (λn σ=>∃ x0 x5 x6,σ=[(0,.v (.f .l x0)),(5,.v (.s x5)),(6,.v (.i x6))]/\BR.l0 n x0 x5 x6=some r0) _ _ ⟨_,_,_,rfl,by first | with_reducible exact h | exact h⟩ ⟨⟨rfl,rfl,rfl,trivial⟩,rfl⟩ ?_;rintro (_ | _) _ _ ⟨x0,x5,x6,rfl,h⟩;cases h;simp only [BR.l0] at h;revert h)
  | (refine Bz _ _ ⟨_,_,_,rfl,by first | with_reducible exact h | exact h⟩ ⟨⟨rfl,rfl,rfl,trivial⟩,rfl⟩ ?_;omega)
  | fail
theorem Bd.ct {k:Nat} {p0:Int} {r0:List (List Int)}:Bd.f k p0=some r0->Ct 221 [.i p0] [.o .l r0]:=by
 refine Ax Tryz.func221 rfl rfl rfl rfl ?_;unfold Bd.f
 repeat' first
  | refine stp ?_
  | (with_reducible refine spr ?_;rintro ⟨⟩)
  | with_reducible refine And.intro ?_ ?_
  | intro h
  | refine RK.call (Ca.ct (by assumption)) rfl rfl rfl ?_
  | refine rks ?_
  | exact Exists.intro _ rfl
  | (refine BA (λn σ=>∃ x0 x3 x4,σ=[(0,.v (.i x0)),(3,.v (.o .l x3)),(4,.v (.i x4))]/\Bd.l0 n x0 x3 x4=some r0) _ _ ⟨_,_,_,rfl,by first | with_reducible exact h | exact h⟩ ⟨⟨rfl,rfl,rfl,trivial⟩,rfl⟩ ?_;rintro (_ | _) _ _ ⟨x0,x3,x4,rfl,h⟩;cases h;simp only [Bd.l0] at h;revert h)
  | (refine Bz _ _ ⟨_,_,_,rfl,by first | with_reducible exact h | exact h⟩ ⟨⟨rfl,rfl,rfl,trivial⟩,rfl⟩ ?_;omega)
  | (refine BA (λn σ=>∃ x0 x3 x4 x5,σ=[(0,.v (.i x0)),(3,.v (.o .l x3)),(4,.v (.i x4)),(5,.v (.i x5))]/\Bd.l1 n x0 x3 x4 x5=some r0) _ _ ⟨_,_,_,_,rfl,by first | with_reducible exact h | exact h⟩ ⟨⟨rfl,rfl,rfl,rfl,trivial⟩,rfl⟩ ?_;rintro (_ | _) _ _ ⟨x0,x3,x4,x5,rfl,h⟩;cases h;simp only [Bd.l1] at h;revert h)
  | (refine Bz _ _ ⟨_,_,_,_,rfl,by first | with_reducible exact h | exact h⟩ ⟨⟨rfl,rfl,rfl,rfl,trivial⟩,rfl⟩ ?_;omega)
  | fail
theorem CX.ct {k:Nat} {p0:Int} {r0:List (List Int)} {r1:Bool}:CX.f k p0=some (r0,r1)->Ct 155 [.i p0] [.o .l r0,.b r1]:=by
 refine Ax Tryz.func155 rfl rfl rfl rfl ?_;unfold CX.f
 repeat' first
  | refine stp ?_
  | (with_reducible refine spr ?_;rintro ⟨⟩)
  | with_reducible refine And.intro ?_ ?_
  | intro h
  | refine RK.call (Cu.ct (by assumption)) rfl rfl rfl ?_
  | refine RK.call (Bd.ct (by assumption)) rfl rfl rfl ?_
  | refine rks ?_
  | exact And.intro (Exists.intro _ rfl) rfl
  | fail
theorem DK.ct {p0:Int} {r0:Int} {r1:Bool}:DK.f p0=some (r0,r1)->Ct 156 [.i p0] [.i r0,.b r1]:=by
 refine Ax Tryz.func156 rfl rfl rfl rfl ?_;unfold DK.f
 repeat' first
  | refine stp ?_
  | (with_reducible refine spr ?_;rintro ⟨⟩)
  | with_reducible refine And.intro ?_ ?_
  | intro h
  | refine RK.call (Cu.ct (by assumption)) rfl rfl rfl ?_
  | refine rks ?_
  | exact And.intro rfl rfl
  | fail
theorem BQ.ct {k:Nat} {p0:Int} {r0:Int}:BQ.f k p0=some r0->Ct 222 [.i p0] [.i r0]:=by
 refine Ax Tryz.func222 rfl rfl rfl rfl ?_;unfold BQ.f
 repeat' first
  | refine stp ?_
  | (with_reducible refine spr ?_;rintro ⟨⟩)
  | with_reducible refine And.intro ?_ ?_
  | intro h
  | refine rks ?_
  | exact (rfl:_=_)
  | (refine BA (λn σ=>∃ x0 x3 x4,σ=[(0,.v (.i x0)),(3,.v (.i x3)),(4,.v (.i x4))]/\BQ.l0 n x0 x3 x4=some r0) _ _ ⟨_,_,_,rfl,by first | with_reducible exact h | exact h⟩ ⟨⟨rfl,rfl,rfl,trivial⟩,rfl⟩ ?_;rintro (_ | _) _ _ ⟨x0,x3,x4,rfl,h⟩;cases h;simp only [BQ.l0] at h;revert h)
  | (refine Bz _ _ ⟨_,_,_,rfl,by first | with_reducible exact h | exact h⟩ ⟨⟨rfl,rfl,rfl,trivial⟩,rfl⟩ ?_;omega)
  | fail
theorem AW.ct {k:Nat} {p0:Int} {r0:List (List Int)} {r1:Bool}:AW.f k p0=some (r0,r1)->Ct 157 [.i p0] [.o .l r0,.b r1]:=by
 refine Ax Tryz.func157 rfl rfl rfl rfl ?_;unfold AW.f
 repeat' first
  | refine stp ?_
  | (with_reducible refine spr ?_;rintro ⟨⟩)
  | with_reducible refine And.intro ?_ ?_
  | intro h
  | refine DB false false (by kernel_rfl) rfl ?_
  | refine RK.call (Cu.ct (by assumption)) rfl rfl rfl ?_
  | refine RK.call (Bd.ct (by assumption)) rfl rfl rfl ?_
  | refine RK.call (Ex.ct (by assumption)) rfl rfl rfl ?_
  | refine RK.call (BQ.ct (by assumption)) rfl rfl rfl ?_
  | refine rks ?_
  | exact And.intro (Exists.intro _ rfl) rfl
  | (refine BA (λn σ=>∃ x4 x5 x6,σ=[(4,.v (.o .l x4)),(5,.v (.o .l x5)),(6,.v (.i x6))]/\AW.l0 n x4 x5 x6=some (r0,r1)) _ _ ⟨_,_,_,rfl,by first | with_reducible exact h | exact h⟩ ⟨⟨rfl,rfl,rfl,trivial⟩,rfl⟩ ?_;rintro (_ | _) _ _ ⟨x4,x5,x6,rfl,h⟩;cases h;simp only [AW.l0] at h;revert h)
  | (refine Bz _ _ ⟨_,_,_,rfl,by first | with_reducible exact h | exact h⟩ ⟨⟨rfl,rfl,rfl,trivial⟩,rfl⟩ ?_;omega)
  | fail
end
end Go.Proofs.YtlgojeodceiglaaGreatDoor.PFnExactExecute
