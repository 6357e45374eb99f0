/- Execute: a part of what is shown of the program's Execute and the reference's. -/
import Derived.Test.YtlgojeodceiglaaGreatDoorA5d
namespace Go.Proofs.YtlgojeodceiglaaGreatDoor.PFnExactExecute
open Go.RowKit Go.Proofs.YtlgojeodceiglaaGreatDoorW.PrintWords Go.Proofs.YtlgojeodceiglaaGreatDoorW.PrintLast Go.Proofs.YtlgojeodceiglaaGreatDoorW.PrintMore
attribute [local go_sem] WO WQ WS WT WM WN WP WR
set_option linter.unusedVariables false
set_option linter.unusedSimpArgs false
set_option maxRecDepth 100000
set_option maxHeartbeats 0
section
theorem Cl.ct {k:Nat} {p0:List Int} {r0:ByteArray} {r1:Bool}:Cl.f k p0=some (r0,r1)->Ct 151 [.f .i p0] [.s r0,.b r1]:=by
 refine Ax Tryz.func151 rfl rfl rfl rfl ?_;unfold Cl.f
 repeat' first
  | refine stp ?_
  | (with_reducible refine spr ?_;rintro ⟨⟩)
  | (unfold Cl.j0;split;exact spz)
  | with_reducible refine And.intro ?_ ?_
  | intro h
  | refine RK.call (Ar.ct (by assumption)) rfl rfl rfl ?_
  | refine RK.call (CW.ct (by assumption)) rfl rfl rfl ?_
  | refine RK.call (Dw.ct (by assumption)) rfl rfl rfl ?_
  | refine RK.call (AE.ct (by assumption)) rfl rfl rfl ?_
  | refine rks ?_
  | exact And.intro rfl rfl
  | fail
theorem CA.ct {k:Nat} {p0:List Int} {r0:ByteArray}:CA.f k p0=some r0->Ct 213 [.f .i p0] [.s r0]:=by
 refine Ax Tryz.func213 rfl rfl rfl rfl ?_;unfold CA.f
 repeat' first
  | refine stp ?_
  | (with_reducible refine spr ?_;rintro ⟨⟩)
  | with_reducible refine And.intro ?_ ?_
  | intro h
  | refine RK.call (AE.ct (by assumption)) rfl rfl rfl ?_
  | refine rks ?_
  | exact (rfl:_=_)
  | (refine BA (λn σ=>∃ x0 x3 x4,σ=[(0,.v (.f .i x0)),(3,.v (.s x3)),(4,.v (.i x4))]/\CA.l0 n x0 x3 x4=some r0) _ _ ⟨_,_,_,rfl,by first | with_reducible exact h | exact h⟩ ⟨⟨rfl,rfl,rfl,trivial⟩,rfl⟩ ?_;rintro (_ | _) _ _ ⟨x0,x3,x4,rfl,h⟩;cases h;simp only [CA.l0] at h;revert h)
  | (refine Bz _ _ ⟨_,_,_,rfl,by first | with_reducible exact h | exact h⟩ ⟨⟨rfl,rfl,rfl,trivial⟩,rfl⟩ ?_;omega)
  | fail
theorem Df.ct {k:Nat} {p0:List Int} {r0:ByteArray} {r1:Bool}:Df.f k p0=some (r0,r1)->Ct 152 [.f .i p0] [.s r0,.b r1]:=by
 refine Ax Tryz.func152 rfl rfl rfl rfl ?_;unfold Df.f
 repeat' first
  | refine stp ?_
  | (with_reducible refine spr ?_;rintro ⟨⟩)
  | with_reducible refine And.intro ?_ ?_
  | intro h
  | refine RK.call (Ar.ct (by assumption)) rfl rfl rfl ?_
  | refine RK.call (CJ.ct (by assumption)) rfl rfl rfl ?_
  | refine RK.call (CA.ct (by assumption)) rfl rfl rfl ?_
  | refine rks ?_
  | exact And.intro rfl rfl
  | fail
theorem Cs.ct {k:Nat} {p0:List Int} {p1:Int} {r0:Int} {r1:Int} {r2:Int}:Cs.f k p0 p1=some (r0,r1,r2)->Ct 264 [.f .i p0,.i p1] [.i r0,.i r1,.i r2]:=by
 refine Ax Tryz.func264 rfl rfl rfl rfl ?_;unfold Cs.f
 repeat' first
  | refine stp ?_
  | (with_reducible refine spr ?_;rintro ⟨⟩)
  | with_reducible refine And.intro ?_ ?_
  | intro h
  | refine rks ?_
  | exact And.intro rfl (And.intro rfl rfl)
  | (refine BA (λn σ=>∃ x0 x1 x7 x8 x9 x10,σ=[(0,.v (.f .i x0)),(1,.v (.i x1)),(7,.v (.i x7)),(8,.v (.i x8)),(9,.v (.i x9)),(10,.v (.i x10))]/\Cs.l0 n x0 x1 x7 x8 x9 x10=some (r0,r1,r2)) _ _ ⟨_,_,_,_,_,_,rfl,by first | with_reducible exact h | exact h⟩ ⟨⟨rfl,rfl,rfl,rfl,rfl,rfl,trivial⟩,rfl⟩ ?_;rintro (_ | _) _ _ ⟨x0,x1,x7,x8,x9,x10,rfl,h⟩;cases h;simp only [Cs.l0] at h;revert h)
  | (refine Bz _ _ ⟨_,_,_,_,_,_,rfl,by first | with_reducible exact h | exact h⟩ ⟨⟨rfl,rfl,rfl,rfl,rfl,rfl,trivial⟩,rfl⟩ ?_;omega)
  | fail
theorem Cn.ct {k:Nat} {p0:List Int} {r0:List Bool}:Cn.f k p0=some r0->Ct 263 [.f .i p0] [.o .b r0]:=by
 refine Ax Tryz.func263 rfl rfl rfl rfl ?_;unfold Cn.f
 repeat' first
  | refine stp ?_
  | (with_reducible refine spr ?_;rintro ⟨⟩)
  | with_reducible refine And.intro ?_ ?_
  | intro h
  | refine RK.call (B4.ct (by assumption)) rfl rfl rfl ?_
  | refine RK.call (Cs.ct (by assumption)) rfl rfl rfl ?_
  | refine rks ?_
  | exact Exists.intro _ rfl
  | (refine BA (λn σ=>∃ x0 x3 x4,σ=[(0,.v (.f .i x0)),(3,.v (.o .b x3)),(4,.v (.i x4))]/\Cn.l0 n x0 x3 x4=some r0) _ _ ⟨_,_,_,rfl,by first | with_reducible exact h | exact h⟩ ⟨⟨rfl,rfl,rfl,trivial⟩,rfl⟩ ?_;rintro (_ | _) _ _ ⟨x0,x3,x4,rfl,h⟩;cases h;simp only [Cn.l0] at h;revert h)
  | (refine Bz _ _ ⟨_,_,_,rfl,by first | with_reducible exact h | exact h⟩ ⟨⟨rfl,rfl,rfl,trivial⟩,rfl⟩ ?_;omega)
  | fail
theorem BX.ct {k:Nat} {p0:List Int} {r0:List Int} {r1:Bool}:BX.f k p0=some (r0,r1)->Ct 214 [.f .i p0] [.o .i r0,.b r1]:=by
 refine Ax Tryz.func214 rfl rfl rfl rfl ?_;unfold BX.f
 repeat' first
  | refine stp ?_
  | (with_reducible refine spr ?_;rintro ⟨⟩)
  | with_reducible refine And.intro ?_ ?_
  | intro h
  | refine RK.call (Bj.ct (by assumption)) rfl rfl rfl ?_
  | refine RK.call (Cn.ct (by assumption)) rfl rfl rfl ?_
  | refine rks ?_
  | exact And.intro (Exists.intro _ rfl) rfl
  | (refine BA (λn σ=>∃ x4 x5 x6,σ=[(4,.v (.o .i x4)),(5,.v (.o .b x5)),(6,.v (.i x6))]/\BX.l0 n x4 x5 x6=some (r0,r1)) _ _ ⟨_,_,_,rfl,by first | with_reducible exact h | exact h⟩ ⟨⟨rfl,rfl,rfl,trivial⟩,rfl⟩ ?_;rintro (_ | _) _ _ ⟨x4,x5,x6,rfl,h⟩;cases h;simp only [BX.l0] at h;revert h)
  | (refine Bz _ _ ⟨_,_,_,rfl,by first | with_reducible exact h | exact h⟩ ⟨⟨rfl,rfl,rfl,trivial⟩,rfl⟩ ?_;omega)
  | fail
theorem Ek.ct {k:Nat} {p0:List Int} {r0:Int} {r1:Bool}:Ek.f k p0=some (r0,r1)->Ct 215 [.f .i p0] [.i r0,.b r1]:=by
 refine Ax Tryz.func215 rfl rfl rfl rfl ?_;unfold Ek.f
 repeat' first
  | refine stp ?_
  | (with_reducible refine spr ?_;rintro ⟨⟩)
  | with_reducible refine And.intro ?_ ?_
  | intro h
  | refine RK.call (BX.ct (by assumption)) rfl rfl rfl ?_
  | refine rks ?_
  | exact And.intro rfl rfl
  | fail
theorem Ci.ct {k:Nat} {p0:List Int} {r0:Int} {r1:Bool}:Ci.f k p0=some (r0,r1)->Ct 216 [.f .i p0] [.i r0,.b r1]:=by
 refine Ax Tryz.func216 rfl rfl rfl rfl ?_;unfold Ci.f
 repeat' first
  | refine stp ?_
  | (with_reducible refine spr ?_;rintro ⟨⟩)
  | with_reducible refine And.intro ?_ ?_
  | intro h
  | refine RK.call (Bj.ct (by assumption)) rfl rfl rfl ?_
  | refine RK.call (Cs.ct (by assumption)) rfl rfl rfl ?_
  | refine rks ?_
  | exact And.intro rfl rfl
  | (refine BA (λn σ=>∃ x0 x4 x5,σ=[(0,.v (.f .i x0)),(4,.v (.i x4)),(5,.v (.i x5))]/\Ci.l0 n x0 x4 x5=some (r0,r1)) _ _ ⟨_,_,_,rfl,by first | with_reducible exact h | exact h⟩ ⟨⟨rfl,rfl,rfl,trivial⟩,rfl⟩ ?_;rintro (_ | _) _ _ ⟨x0,x4,x5,rfl,h⟩;cases h;simp only [Ci.l0] at h;revert h)
  | (refine Bz _ _ ⟨_,_,_,rfl,by first | with_reducible exact h | exact h⟩ ⟨⟨rfl,rfl,rfl,trivial⟩,rfl⟩ ?_;omega)
  | fail
theorem Ch.ct {k:Nat} {p0:List Int} {r0:Int} {r1:Int}:Ch.f k p0=some (r0,r1)->Ct 265 [.f .i p0] [.i r0,.i r1]:=by
 refine Ax Tryz.func265 rfl rfl rfl rfl ?_;unfold Ch.f
 repeat' first
  | refine stp ?_
  | (with_reducible refine spr ?_;rintro ⟨⟩)
  | with_reducible refine And.intro ?_ ?_
  | intro h
  | refine RK.call (Cs.ct (by assumption)) rfl rfl rfl ?_
  | refine rks ?_
  | exact And.intro rfl rfl
  | (refine BA (λn σ=>∃ x0 x4 x5 x6,σ=[(0,.v (.f .i x0)),(4,.v (.i x4)),(5,.v (.i x5)),(6,.v (.i x6))]/\Ch.l0 n x0 x4 x5 x6=some (r0,r1)) _ _ ⟨_,_,_,_,rfl,by first | with_reducible exact h | exact h⟩ ⟨⟨rfl,rfl,rfl,rfl,trivial⟩,rfl⟩ ?_;rintro (_ | _) _ _ ⟨x0,x4,x5,x6,rfl,h⟩;cases h;simp only [Ch.l0] at h;revert h)
  | (refine Bz _ _ ⟨_,_,_,_,rfl,by first | with_reducible exact h | exact h⟩ ⟨⟨rfl,rfl,rfl,rfl,trivial⟩,rfl⟩ ?_;omega)
  | fail
end
end Go.Proofs.YtlgojeodceiglaaGreatDoor.PFnExactExecute
