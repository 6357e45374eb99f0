/- Execute: a part of what is shown of the program's Execute and the reference's. -/
import Derived.Test.YtlgojeodceiglaaGreatDoorA5a
namespace Go.Proofs.YtlgojeodceiglaaGreatDoor.PFnExactExecute
open Go.RowKit Go.Proofs.YtlgojeodceiglaaGreatDoorW.PrintWords Go.Proofs.YtlgojeodceiglaaGreatDoorW.PrintLast Go.Proofs.YtlgojeodceiglaaGreatDoorW.PrintMore
attribute [local go_sem] WO WQ WS WT WM WN WP WR
set_option linter.unusedVariables false
set_option linter.unusedSimpArgs false
set_option maxRecDepth 100000
set_option maxHeartbeats 0
section
theorem AE.ct:∀ {k:Nat} {p0:Int} {r0:ByteArray},AE.f k p0=some r0->Ct 24 [.i p0] [.s r0]:=by
 intro k
 induction k using Nat.strongRecOn with
 | ind k IH=>
 intro p0 r0;have ih:∀ {k':Nat} {p0:Int} {r0:ByteArray},AE.f k' p0=some r0->k'<k->Ct 24 [.i p0] [.s r0]:=λh hk=>IH _ hk h;clear IH
 cases k with
 | zero=>exact spz
 | succ k=>
 refine Ax Tryz.func24 rfl rfl rfl rfl ?_;simp only [AE.f]
 repeat' first
  | refine stp ?_
  | (with_reducible refine spr ?_;rintro ⟨⟩)
  | with_reducible refine And.intro ?_ ?_
  | intro h
  | refine DB false false (by kernel_rfl) rfl ?_
  | refine RK.call (ih (by assumption) (by omega)) rfl rfl rfl ?_
  | refine rks ?_
  | exact (rfl:_=_)
  | fail
theorem Cq.ct {k:Nat} {p0:List Int} {p1:ByteArray} {r0:ByteArray}:Cq.f k p0 p1=some r0->Ct 200 [.f .i p0,.s p1] [.s r0]:=by
 refine Ax Tryz.func200 rfl rfl rfl rfl ?_;unfold Cq.f
 repeat' first
  | refine stp ?_
  | (with_reducible refine spr ?_;rintro ⟨⟩)
  | with_reducible refine And.intro ?_ ?_
  | intro h
  | refine RK.call (AE.ct (by assumption)) rfl rfl rfl ?_
  | refine rks ?_
  | exact (rfl:_=_)
  | (refine BA (λn σ=>∃ x0 x1 x5 x6,σ=[(0,.v (.f .i x0)),(1,.v (.s x1)),(5,.v (.s x5)),(6,.v (.i x6))]/\Cq.l0 n x0 x1 x5 x6=some r0) _ _ ⟨_,_,_,_,rfl,by first | with_reducible exact h | exact h⟩ ⟨⟨rfl,rfl,rfl,rfl,trivial⟩,rfl⟩ ?_;rintro (_ | _) _ _ ⟨x0,x1,x5,x6,rfl,h⟩;cases h;simp only [Cq.l0] at h;revert h)
  | (refine Bz _ _ ⟨_,_,_,_,rfl,by first | with_reducible exact h | exact h⟩ ⟨⟨rfl,rfl,rfl,rfl,trivial⟩,rfl⟩ ?_;omega)
  | fail
theorem BG.ct {k:Nat} {p0:List Int} {p1:Bool} {r0:ByteArray}:BG.f k p0 p1=some r0->Ct 131 [.f .i p0,.b p1] [.s r0]:=by
 refine Ax Tryz.func131 rfl rfl rfl rfl ?_;unfold BG.f
 repeat' first
  | refine stp ?_
  | (with_reducible refine spr ?_;rintro ⟨⟩)
  | with_reducible refine And.intro ?_ ?_
  | intro h
  | refine RK.call (Cq.ct (by assumption)) rfl rfl rfl ?_
  | refine rks ?_
  | exact (rfl:_=_)
  | fail
theorem Bq.ct {k:Nat} {p0:Int} {p1:Bool} {r0:ByteArray}:Bq.f k p0 p1=some r0->Ct 132 [.i p0,.b p1] [.s r0]:=by
 refine Ax Tryz.func132 rfl rfl rfl rfl ?_;unfold Bq.f
 repeat' first
  | refine stp ?_
  | (with_reducible refine spr ?_;rintro ⟨⟩)
  | with_reducible refine And.intro ?_ ?_
  | intro h
  | refine RK.call (BG.ct (by assumption)) rfl rfl rfl ?_
  | refine rks ?_
  | exact (rfl:_=_)
  | fail
theorem B4.ct {k:Nat} {p0:List Int} {r0:Int}:B4.f k p0=some r0->Ct 201 [.f .i p0] [.i r0]:=by
 refine Ax Tryz.func201 rfl rfl rfl rfl ?_;unfold B4.f
 repeat' first
  | refine stp ?_
  | (with_reducible refine spr ?_;rintro ⟨⟩)
  | with_reducible refine And.intro ?_ ?_
  | intro h
  | refine rks ?_
  | exact (rfl:_=_)
  | (refine BA (λn σ=>∃ x0 x3 x4,σ=[(0,.v (.f .i x0)),(3,.v (.i x3)),(4,.v (.i x4))]/\B4.l0 n x0 x3 x4=some r0) _ _ ⟨_,_,_,rfl,by first | with_reducible exact h | exact h⟩ ⟨⟨rfl,rfl,rfl,trivial⟩,rfl⟩ ?_;rintro (_ | _) _ _ ⟨x0,x3,x4,rfl,h⟩;cases h;simp only [B4.l0] at h;revert h)
  | (refine Bz _ _ ⟨_,_,_,rfl,by first | with_reducible exact h | exact h⟩ ⟨⟨rfl,rfl,rfl,trivial⟩,rfl⟩ ?_;omega)
  | fail
theorem En.ct {k:Nat} {p0:List Int} {r0:Int} {r1:Bool}:En.f k p0=some (r0,r1)->Ct 133 [.f .i p0] [.i r0,.b r1]:=by
 refine Ax Tryz.func133 rfl rfl rfl rfl ?_;unfold En.f
 repeat' first
  | refine stp ?_
  | (with_reducible refine spr ?_;rintro ⟨⟩)
  | with_reducible refine And.intro ?_ ?_
  | intro h
  | refine RK.call (Ar.ct (by assumption)) rfl rfl rfl ?_
  | refine RK.call (B4.ct (by assumption)) rfl rfl rfl ?_
  | refine rks ?_
  | exact And.intro rfl rfl
  | fail
theorem Ca.ct {p0:Int} {p1:Int} {p2:Int} {r0:Bool}:Ca.f p0 p1 p2=some r0->Ct 203 [.i p0,.i p1,.i p2] [.b r0]:=by
 refine Ax Tryz.func203 rfl rfl rfl rfl ?_;unfold Ca.f
 repeat' first
  | refine stp ?_
  | (with_reducible refine spr ?_;rintro ⟨⟩)
  | with_reducible refine And.intro ?_ ?_
  | intro h
  | refine rks ?_
  | exact (rfl:_=_)
  | fail
theorem Bf.ct {k:Nat} {p0:List Int} {r0:Int}:Bf.f k p0=some r0->Ct 202 [.f .i p0] [.i r0]:=by
 refine Ax Tryz.func202 rfl rfl rfl rfl ?_;unfold Bf.f
 repeat' first
  | refine stp ?_
  | (with_reducible refine spr ?_;rintro ⟨⟩)
  | with_reducible refine And.intro ?_ ?_
  | intro h
  | refine DB false false (by kernel_rfl) rfl ?_
  | refine RK.call (Ca.ct (by assumption)) rfl rfl rfl ?_
  | refine rks ?_
  | exact (rfl:_=_)
  | (refine BA (λn σ=>∃ x0 x3 x4,σ=[(0,.v (.f .i x0)),(3,.v (.i x3)),(4,.v (.i x4))]/\Bf.l0 n x0 x3 x4=some r0) _ _ ⟨_,_,_,rfl,by first | with_reducible exact h | exact h⟩ ⟨⟨rfl,rfl,rfl,trivial⟩,rfl⟩ ?_;rintro (_ | _) _ _ ⟨x0,x3,x4,rfl,h⟩;cases h;simp only [Bf.l0] at h;revert h)
  | (refine Bz _ _ ⟨_,_,_,rfl,by first | with_reducible exact h | exact h⟩ ⟨⟨rfl,rfl,rfl,trivial⟩,rfl⟩ ?_;omega)
  | (refine BA (λn σ=>∃ x0 x3 x4 x5,σ=[(0,.v (.f .i x0)),(3,.v (.i x3)),(4,.v (.i x4)),(5,.v (.i x5))]/\Bf.l1 n x0 x3 x4 x5=some r0) _ _ ⟨_,_,_,_,rfl,by first | with_reducible exact h | exact h⟩ ⟨⟨rfl,rfl,rfl,rfl,trivial⟩,rfl⟩ ?_;rintro (_ | _) _ _ ⟨x0,x3,x4,x5,rfl,h⟩;cases h;simp only [Bf.l1] at h;revert h)
  | (refine Bz _ _ ⟨_,_,_,_,rfl,by first | with_reducible exact h | exact h⟩ ⟨⟨rfl,rfl,rfl,rfl,trivial⟩,rfl⟩ ?_;omega)
  | (refine BA (λn σ=>∃ x0 x3 x4 x5 x6,σ=[(0,.v (.f .i x0)),(3,.v (.i x3)),(4,.v (.i x4)),(5,.v (.i x5)),(6,.v (.i x6))]/\Bf.l2 n x0 x3 x4 x5 x6=some r0) _ _ ⟨_,_,_,_,_,rfl,by first | with_reducible exact h | exact h⟩ ⟨⟨rfl,rfl,rfl,rfl,rfl,trivial⟩,rfl⟩ ?_;rintro (_ | _) _ _ ⟨x0,x3,x4,x5,x6,rfl,h⟩;cases h;simp only [Bf.l2] at h;revert h)
  | (refine Bz _ _ ⟨_,_,_,_,_,rfl,by first | with_reducible exact h | exact h⟩ ⟨⟨rfl,rfl,rfl,rfl,rfl,trivial⟩,rfl⟩ ?_;omega)
  | fail
theorem DP.ct {k:Nat} {p0:List Int} {r0:Int} {r1:Bool}:DP.f k p0=some (r0,r1)->Ct 134 [.f .i p0] [.i r0,.b r1]:=by
 refine Ax Tryz.func134 rfl rfl rfl rfl ?_;unfold DP.f
 repeat' first
  | refine stp ?_
  | (with_reducible refine spr ?_;rintro ⟨⟩)
  | with_reducible refine And.intro ?_ ?_
  | intro h
  | refine RK.call (Ar.ct (by assumption)) rfl rfl rfl ?_
  | refine RK.call (Bf.ct (by assumption)) rfl rfl rfl ?_
  | refine rks ?_
  | exact And.intro rfl rfl
  | fail
theorem Bg.ct {k:Nat} {p0:List Int} {r0:Int} {r1:Bool}:Bg.f k p0=some (r0,r1)->Ct 135 [.f .i p0] [.i r0,.b r1]:=by
 refine Ax Tryz.func135 rfl rfl rfl rfl ?_;unfold Bg.f
 repeat' first
  | refine stp ?_
  | (with_reducible refine spr ?_;rintro ⟨⟩)
  | with_reducible refine And.intro ?_ ?_
  | intro h
  | refine DB false false (by kernel_rfl) rfl ?_
  | refine RK.call (Ar.ct (by assumption)) rfl rfl rfl ?_
  | refine RK.call (Ca.ct (by assumption)) rfl rfl rfl ?_
  | refine rks ?_
  | exact And.intro rfl rfl
  | (refine BA (λn σ=>∃ x0 x4,σ=[(0,.v (.f .i x0)),(4,.v (.i x4))]/\Bg.l0 n x0 x4=some (r0,r1)) _ _ ⟨_,_,rfl,by first | with_reducible exact h | exact h⟩ ⟨⟨rfl,rfl,trivial⟩,rfl⟩ ?_;rintro (_ | _) _ _ ⟨x0,x4,rfl,h⟩;cases h;simp only [Bg.l0] at h;revert h)
  | (refine Bz _ _ ⟨_,_,rfl,by first | with_reducible exact h | exact h⟩ ⟨⟨rfl,rfl,trivial⟩,rfl⟩ ?_;omega)
  | fail
theorem DO.ct {k:Nat} {p0:List Int} {r0:Bool}:DO.f k p0=some r0->Ct 137 [.f .i p0] [.b r0]:=by
 refine Ax Tryz.func137 rfl rfl rfl rfl ?_;unfold DO.f
 repeat' first
  | refine stp ?_
  | (with_reducible refine spr ?_;rintro ⟨⟩)
  | with_reducible refine And.intro ?_ ?_
  | intro h
  | refine RK.call (Ar.ct (by assumption)) rfl rfl rfl ?_
  | refine RK.call (Bf.ct (by assumption)) rfl rfl rfl ?_
  | refine rks ?_
  | exact (rfl:_=_)
  | fail
theorem CT.ct {p0:ByteArray} {p1:Bool} {r0:ByteArray}:CT.f p0 p1=some r0->Ct 138 [.s p0,.b p1] [.s r0]:=by
 refine Ax Tryz.func138 rfl rfl rfl rfl ?_;unfold CT.f
 repeat' first
  | refine stp ?_
  | (with_reducible refine spr ?_;rintro ⟨⟩)
  | with_reducible refine And.intro ?_ ?_
  | intro h
  | refine rks ?_
  | exact (rfl:_=_)
  | fail
end
end Go.Proofs.YtlgojeodceiglaaGreatDoor.PFnExactExecute
