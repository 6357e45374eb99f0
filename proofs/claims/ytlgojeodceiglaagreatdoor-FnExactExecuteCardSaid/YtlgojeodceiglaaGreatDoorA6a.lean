/- Execute: a part of what is shown of the program's Execute and the reference's. -/
import Derived.Test.YtlgojeodceiglaaGreatDoorA5e
namespace Go.Proofs.YtlgojeodceiglaaGreatDoor.PFnExactExecute
open Go.RowKit Go.Proofs.YtlgojeodceiglaaGreatDoorW.PrintWords Go.Proofs.YtlgojeodceiglaaGreatDoorW.PrintLast Go.Proofs.YtlgojeodceiglaaGreatDoorW.PrintMore
attribute [local go_sem] WO WQ WS WT WM WN WP WR
set_option linter.unusedVariables false
set_option linter.unusedSimpArgs false
set_option maxRecDepth 100000
set_option maxHeartbeats 0
section
theorem El.ct {k:Nat} {p0:List Int} {r0:Int} {r1:Bool}:El.f k p0=some (r0,r1)->Ct 217 [.f .i p0] [.i r0,.b r1]:=by
 refine Ax Tryz.func217 rfl rfl rfl rfl ?_;unfold El.f
 repeat' first
  | refine stp ?_
  | (with_reducible refine spr ?_;rintro ⟨⟩)
  | with_reducible refine And.intro ?_ ?_
  | intro h
  | refine RK.call (Bj.ct (by assumption)) rfl rfl rfl ?_
  | refine RK.call (Ch.ct (by assumption)) rfl rfl rfl ?_
  | refine rks ?_
  | exact And.intro rfl rfl
  | fail
theorem Aw.ct {k:Nat} {p0:List Int} {p1:Int} {r0:Bool}:Aw.f k p0 p1=some r0->Ct 266 [.f .i p0,.i p1] [.b r0]:=by
 refine Ax Tryz.func266 rfl rfl rfl rfl ?_;unfold Aw.f
 repeat' first
  | refine stp ?_
  | (with_reducible refine spr ?_;rintro ⟨⟩)
  | (unfold Aw.j3;split;exact spz)
  | with_reducible refine And.intro ?_ ?_
  | intro h
  | refine rks ?_
  | exact (rfl:_=_)
  | (refine BA (λn σ=>∃ x0 x1 x5 x6,σ=[(0,.v (.f .i x0)),(1,.v (.i x1)),(5,.v (.o .b x5)),(6,.v (.i x6))]/\Aw.l0 n x0 x1 x5 x6=some r0) _ _ ⟨_,_,_,_,rfl,by first | with_reducible exact h | exact h⟩ ⟨⟨rfl,rfl,rfl,rfl,trivial⟩,rfl⟩ ?_;rintro (_ | _) _ _ ⟨x0,x1,x5,x6,rfl,h⟩;cases h;simp only [Aw.l0] at h;revert h)
  | (refine Bz _ _ ⟨_,_,_,_,rfl,by first | with_reducible exact h | exact h⟩ ⟨⟨rfl,rfl,rfl,rfl,trivial⟩,rfl⟩ ?_;omega)
  | (refine BA (λn σ=>∃ x0 x1 x5 x7,σ=[(0,.v (.f .i x0)),(1,.v (.i x1)),(5,.v (.o .b x5)),(7,.v (.i x7))]/\Aw.l1 n x0 x1 x5 x7=some r0) _ _ ⟨_,_,_,_,rfl,by first | with_reducible exact h | exact h⟩ ⟨⟨rfl,rfl,rfl,rfl,trivial⟩,rfl⟩ ?_;rintro (_ | _) _ _ ⟨x0,x1,x5,x7,rfl,h⟩;cases h;simp only [Aw.l1] at h;revert h)
  | (refine Bz _ _ ⟨_,_,_,_,rfl,by first | with_reducible exact h | exact h⟩ ⟨⟨rfl,rfl,rfl,rfl,trivial⟩,rfl⟩ ?_;omega)
  | (refine BA (λn σ=>∃ x0 x1 x5 x7 x8 x9,σ=[(0,.v (.f .i x0)),(1,.v (.i x1)),(5,.v (.o .b x5)),(7,.v (.i x7)),(8,.v (.o .b x8)),(9,.v (.i x9))]/\Aw.l2 n x0 x1 x5 x7 x8 x9=some r0) _ _ ⟨_,_,_,_,_,_,rfl,by first | with_reducible exact h | exact h⟩ ⟨⟨rfl,rfl,rfl,rfl,rfl,rfl,trivial⟩,rfl⟩ ?_;rintro (_ | _) _ _ ⟨x0,x1,x5,x7,x8,x9,rfl,h⟩;cases h;simp only [Aw.l2] at h;revert h)
  | (refine Bz _ _ ⟨_,_,_,_,_,_,rfl,by first | with_reducible exact h | exact h⟩ ⟨⟨rfl,rfl,rfl,rfl,rfl,rfl,trivial⟩,rfl⟩ ?_;omega)
  | (refine BA (λn σ=>∃ x1 x5 x10,σ=[(1,.v (.i x1)),(5,.v (.o .b x5)),(10,.v (.i x10))]/\Aw.l3 n x1 x5 x10=some r0) _ _ ⟨_,_,_,rfl,by first | with_reducible exact h | exact h⟩ ⟨⟨rfl,rfl,rfl,trivial⟩,rfl⟩ ?_;rintro (_ | _) _ _ ⟨x1,x5,x10,rfl,h⟩;cases h;simp only [Aw.l3] at h;revert h)
  | (refine Bz _ _ ⟨_,_,_,rfl,by first | with_reducible exact h | exact h⟩ ⟨⟨rfl,rfl,rfl,trivial⟩,rfl⟩ ?_;omega)
  | fail
theorem Cx.ct {k:Nat} {p0:List Int} {r0:Int} {r1:Bool}:Cx.f k p0=some (r0,r1)->Ct 218 [.f .i p0] [.i r0,.b r1]:=by
 refine Ax Tryz.func218 rfl rfl rfl rfl ?_;unfold Cx.f
 repeat' first
  | refine stp ?_
  | (with_reducible refine spr ?_;rintro ⟨⟩)
  | with_reducible refine And.intro ?_ ?_
  | intro h
  | refine RK.call (Bj.ct (by assumption)) rfl rfl rfl ?_
  | refine RK.call (Aw.ct (by assumption)) rfl rfl rfl ?_
  | refine rks ?_
  | exact And.intro rfl rfl
  | (refine BA (λn σ=>∃ x0 x4,σ=[(0,.v (.f .i x0)),(4,.v (.i x4))]/\Cx.l0 n x0 x4=some (r0,r1)) _ _ ⟨_,_,rfl,by first | with_reducible exact h | exact h⟩ ⟨⟨rfl,rfl,trivial⟩,rfl⟩ ?_;rintro (_ | _) _ _ ⟨x0,x4,rfl,h⟩;cases h;simp only [Cx.l0] at h;revert h)
  | (refine Bz _ _ ⟨_,_,rfl,by first | with_reducible exact h | exact h⟩ ⟨⟨rfl,rfl,trivial⟩,rfl⟩ ?_;omega)
  | fail
theorem AU.ct {k:Nat} {p0:List Int} {r0:Int} {r1:Bool}:AU.f k p0=some (r0,r1)->Ct 219 [.f .i p0] [.i r0,.b r1]:=by
 refine Ax Tryz.func219 rfl rfl rfl rfl ?_;unfold AU.f
 repeat' first
  | refine stp ?_
  | (with_reducible refine spr ?_;rintro ⟨⟩)
  | with_reducible refine And.intro ?_ ?_
  | intro h
  | refine RK.call (Bj.ct (by assumption)) rfl rfl rfl ?_
  | refine rks ?_
  | exact And.intro rfl rfl
  | (refine BA (λn σ=>∃ x0 x4 x5,σ=[(0,.v (.f .i x0)),(4,.v (.i x4)),(5,.v (.i x5))]/\AU.l0 n x0 x4 x5=some (r0,r1)) _ _ ⟨_,_,_,rfl,by first | with_reducible exact h | exact h⟩ ⟨⟨rfl,rfl,rfl,trivial⟩,rfl⟩ ?_;rintro (_ | _) _ _ ⟨x0,x4,x5,rfl,h⟩;cases h;simp only [AU.l0] at h;revert h)
  | (refine Bz _ _ ⟨_,_,_,rfl,by first | with_reducible exact h | exact h⟩ ⟨⟨rfl,rfl,rfl,trivial⟩,rfl⟩ ?_;omega)
  | (refine BA (λn σ=>∃ x0 x4 x6 x7 x8 x9,σ=[(0,.v (.f .i x0)),(4,.v (.i x4)),(6,.v (.i x6)),(7,.v (.i x7)),(8,.v (.i x8)),(9,.v (.i x9))]/\AU.l1 n x0 x4 x6 x7 x8 x9=some (r0,r1)) _ _ ⟨_,_,_,_,_,_,rfl,by first | with_reducible exact h | exact h⟩ ⟨⟨rfl,rfl,rfl,rfl,rfl,rfl,trivial⟩,rfl⟩ ?_;rintro (_ | _) _ _ ⟨x0,x4,x6,x7,x8,x9,rfl,h⟩;cases h;simp only [AU.l1] at h;revert h)
  | (refine Bz _ _ ⟨_,_,_,_,_,_,rfl,by first | with_reducible exact h | exact h⟩ ⟨⟨rfl,rfl,rfl,rfl,rfl,rfl,trivial⟩,rfl⟩ ?_;omega)
  | fail
theorem Cb.ct {k:Nat} {p0:List Int} {r0:ByteArray} {r1:Bool}:Cb.f k p0=some (r0,r1)->Ct 220 [.f .i p0] [.s r0,.b r1]:=by
 refine Ax Tryz.func220 rfl rfl rfl rfl ?_;unfold Cb.f
 repeat' first
  | refine stp ?_
  | (with_reducible refine spr ?_;rintro ⟨⟩)
  | with_reducible refine And.intro ?_ ?_
  | intro h
  | refine RK.call (Bj.ct (by assumption)) rfl rfl rfl ?_
  | refine RK.call (Ch.ct (by assumption)) rfl rfl rfl ?_
  | refine rks ?_
  | exact And.intro rfl rfl
  | (refine BA (λn σ=>∃ x0 x5 x6 x7,σ=[(0,.v (.f .i x0)),(5,.v (.i x5)),(6,.v (.o .y x6)),(7,.v (.i x7))]/\Cb.l0 n x0 x5 x6 x7=some (r0,r1)) _ _ ⟨_,_,_,_,rfl,by first | with_reducible exact h | exact h⟩ ⟨⟨rfl,rfl,rfl,rfl,trivial⟩,rfl⟩ ?_;rintro (_ | _) _ _ ⟨x0,x5,x6,x7,rfl,h⟩;cases h;simp only [Cb.l0] at h;revert h)
  | (refine Bz _ _ ⟨_,_,_,_,rfl,by first | with_reducible exact h | exact h⟩ ⟨⟨rfl,rfl,rfl,rfl,trivial⟩,rfl⟩ ?_;omega)
  | fail
theorem ER.ct {k:Nat} {p0:List Int} {p1:ByteArray} {r0:ByteArray}:ER.f k p0 p1=some r0->Ct 153 [.f .i p0,.s p1] [.s r0]:=by
 refine Ax Tryz.func153 rfl rfl rfl rfl ?_;unfold ER.f
 repeat' first
  | refine stp ?_
  | (with_reducible refine spr ?_;rintro ⟨⟩)
  | with_reducible refine And.intro ?_ ?_
  | intro h
  | refine RK.call (BX.ct (by assumption)) rfl rfl rfl ?_
  | refine RK.call (BG.ct (by assumption)) rfl rfl rfl ?_
  | refine RK.call (Ek.ct (by assumption)) rfl rfl rfl ?_
  | refine RK.call (Bq.ct (by assumption)) rfl rfl rfl ?_
  | refine RK.call (Ci.ct (by assumption)) rfl rfl rfl ?_
  | refine RK.call (El.ct (by assumption)) rfl rfl rfl ?_
  | refine RK.call (Cx.ct (by assumption)) rfl rfl rfl ?_
  | refine RK.call (AU.ct (by assumption)) rfl rfl rfl ?_
  | refine RK.call (Cb.ct (by assumption)) rfl rfl rfl ?_
  | refine RK.call (CT.ct (by assumption)) rfl rfl rfl ?_
  | refine rks ?_
  | exact (rfl:_=_)
  | fail
end
end Go.Proofs.YtlgojeodceiglaaGreatDoor.PFnExactExecute
