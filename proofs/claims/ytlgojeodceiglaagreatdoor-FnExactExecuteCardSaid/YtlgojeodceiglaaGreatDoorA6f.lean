/- Execute: a part of what is shown of the program's Execute and the reference's. -/
import Derived.Test.YtlgojeodceiglaaGreatDoorA6e
namespace Go.Proofs.YtlgojeodceiglaaGreatDoor.PFnExactExecute
open Go.RowKit Go.Proofs.YtlgojeodceiglaaGreatDoorW.PrintWords Go.Proofs.YtlgojeodceiglaaGreatDoorW.PrintLast Go.Proofs.YtlgojeodceiglaaGreatDoorW.PrintMore
attribute [local go_sem] WO WQ WS WT WM WN WP WR
set_option linter.unusedVariables false
set_option linter.unusedSimpArgs false
set_option maxRecDepth 100000
set_option maxHeartbeats 0
section
theorem Bp.ct:∀ {k:Nat} {p0:S150} {p1:Int} {p2:Bool} {r0:ByteArray},Bp.f k p0.f0 p0.f1 p1 p2=some r0->Ct 233 [.h (.k .n p0),.i p1,.b p2] [.s r0]:=by
 intro k
 induction k using Nat.strongRecOn with
 | ind k IH=>
 intro p0 p1 p2 r0;have ih:∀ {k':Nat} {p0:S150} {p1:Int} {p2:Bool} {r0:ByteArray},Bp.f k' p0.f0 p0.f1 p1 p2=some r0->k'<k->Ct 233 [.h (.k .n p0),.i p1,.b p2] [.s r0]:=λh hk=>IH _ hk h;clear IH
 cases k with
 | zero=>exact spz
 | succ k=>
 refine Ax Tryz.func233 rfl rfl rfl rfl ?_;simp only [Bp.f]
 repeat' first
  | refine stp ?_
  | (with_reducible refine spr ?_;rintro ⟨⟩)
  | (unfold Bp.j1;split;exact spz)
  | (unfold Bp.j0;split;exact spz)
  | with_reducible refine And.intro ?_ ?_
  | intro h
  | refine DB false false (by kernel_rfl) rfl ?_
  | refine RK.call (ih (by assumption) (by omega)) rfl rfl rfl ?_
  | refine RK.call (AX.ct (by assumption)) rfl rfl rfl ?_
  | refine rks ?_
  | exact (rfl:_=_)
  | fail
theorem DJ.ct {k:Nat} {p0:ByteArray} {r0:ByteArray} {r1:Bool}:DJ.f k p0=some (r0,r1)->Ct 165 [.s p0] [.s r0,.b r1]:=by
 refine Ax Tryz.func165 rfl rfl rfl rfl ?_;unfold DJ.f
 repeat' first
  | refine stp ?_
  | (with_reducible refine spr ?_;rintro ⟨⟩)
  | with_reducible refine And.intro ?_ ?_
  | intro h
  | refine RK.call (Eb.ct (by assumption)) rfl rfl rfl ?_
  | refine RK.call (Bp.ct (by assumption)) rfl rfl rfl ?_
  | refine RK.fi rfl rfl rfl ?_
  | refine rks ?_
  | exact And.intro rfl rfl
  | fail
theorem BD.ct {k:Nat} {p0:ByteArray} {r0:Int} {r1:Int} {r2:Int} {r3:Bool}:BD.f k p0=some (r0,r1,r2,r3)->Ct 166 [.s p0] [.i r0,.i r1,.i r2,.b r3]:=by
 refine Ax Tryz.func166 rfl rfl rfl rfl ?_;unfold BD.f
 repeat' first
  | refine stp ?_
  | (with_reducible refine spr ?_;rintro ⟨⟩)
  | with_reducible refine And.intro ?_ ?_
  | intro h
  | refine RK.call (Dm.ct (by assumption)) rfl rfl rfl ?_
  | refine RK.call (AX.ct (by assumption)) rfl rfl rfl ?_
  | refine rks ?_
  | exact And.intro rfl (And.intro rfl (And.intro rfl rfl))
  | (refine BA (λn σ=>∃ x6 x7 x8 x9 x10 x11,σ=[(6,.v (.s x6)),(7,.v (.b x7)),(8,.v (.i x8)),(9,.v (.i x9)),(10,.v (.i x10)),(11,.v (.i x11))]/\BD.l0 n x6 x7 x8 x9 x10 x11=some (r0,r1,r2,r3)) _ _ ⟨_,_,_,_,_,_,rfl,by first | with_reducible exact h | exact h⟩ ⟨⟨rfl,rfl,rfl,rfl,rfl,rfl,trivial⟩,rfl⟩ ?_;rintro (_ | _) _ _ ⟨x6,x7,x8,x9,x10,x11,rfl,h⟩;cases h;simp only [BD.l0] at h;revert h)
  | (refine Bz _ _ ⟨_,_,_,_,_,_,rfl,by first | with_reducible exact h | exact h⟩ ⟨⟨rfl,rfl,rfl,rfl,rfl,rfl,trivial⟩,rfl⟩ ?_;omega)
  | fail
theorem Dc.ct {k:Nat} {p0:List Int} {p1:ByteArray} {p2:ByteArray} {r0:ByteArray}:Dc.f k p0 p1 p2=some r0->Ct 82 [.f .i p0,.s p1,.s p2] [.s r0]:=by
 refine Ax Tryz.func82 rfl rfl rfl rfl ?_;unfold Dc.f
 repeat' first
  | refine stp ?_
  | (with_reducible refine spr ?_;rintro ⟨⟩)
  | (unfold Dc.j0;split;exact spz)
  | with_reducible refine And.intro ?_ ?_
  | intro h
  | refine DB false false (by kernel_rfl) rfl ?_
  | refine RK.call (Ay.ct (by assumption)) rfl rfl rfl ?_
  | refine RK.call (CX.ct (by assumption)) rfl rfl rfl ?_
  | refine RK.call (BR.ct (by assumption)) rfl rfl rfl ?_
  | refine RK.call (DK.ct (by assumption)) rfl rfl rfl ?_
  | refine RK.call (Bq.ct (by assumption)) rfl rfl rfl ?_
  | refine RK.call (AW.ct (by assumption)) rfl rfl rfl ?_
  | refine RK.call (Cf.ct (by assumption)) rfl rfl rfl ?_
  | refine RK.call (Bc.ct (by assumption)) rfl rfl rfl ?_
  | refine RK.call (Dg.ct (by assumption)) rfl rfl rfl ?_
  | refine RK.call (Do.ct (by assumption)) rfl rfl rfl ?_
  | refine RK.call (BG.ct (by assumption)) rfl rfl rfl ?_
  | refine RK.call (Dm.ct (by assumption)) rfl rfl rfl ?_
  | refine RK.call (CT.ct (by assumption)) rfl rfl rfl ?_
  | refine RK.call (DW.ct (by assumption)) rfl rfl rfl ?_
  | refine RK.call (DI.ct (by assumption)) rfl rfl rfl ?_
  | refine RK.call (DJ.ct (by assumption)) rfl rfl rfl ?_
  | refine RK.call (BD.ct (by assumption)) rfl rfl rfl ?_
  | refine rks ?_
  | exact (rfl:_=_)
  | fail
theorem BF.ct {k:Nat} {p0:List Int} {p1:ByteArray} {r0:List Int} {r1:ByteArray}:BF.f k p0 p1=some (r0,r1)->Ct 23 [.f .i p0,.s p1] [.f .i r0,.s r1]:=by
 refine Ax Tryz.func23 rfl rfl rfl rfl ?_;unfold BF.f
 repeat' first
  | refine stp ?_
  | (with_reducible refine spr ?_;rintro ⟨⟩)
  | (unfold BF.j0;split;exact spz)
  | with_reducible refine And.intro ?_ ?_
  | intro h
  | refine RK.call (Bu.ct (by assumption)) rfl rfl rfl ?_
  | refine RK.call (Ef.ct (by assumption)) rfl rfl rfl ?_
  | refine RK.call (Dc.ct (by assumption)) rfl rfl rfl ?_
  | refine rks ?_
  | exact And.intro rfl rfl
  | (refine BA (λn σ=>∃ x0 x1 x6,σ=[(0,.v (.f .i x0)),(1,.v (.s x1)),(6,.v (.i x6))]/\BF.l0 n x0 x1 x6=some (r0,r1)) _ _ ⟨_,_,_,rfl,by first | with_reducible exact h | exact h⟩ ⟨⟨rfl,rfl,rfl,trivial⟩,rfl⟩ ?_;rintro (_ | _) _ _ ⟨x0,x1,x6,rfl,h⟩;cases h;simp only [BF.l0] at h;revert h)
  | (refine Bz _ _ ⟨_,_,_,rfl,by first | with_reducible exact h | exact h⟩ ⟨⟨rfl,rfl,rfl,trivial⟩,rfl⟩ ?_;omega)
  | fail
theorem Co.ct {k:Nat} {p0:ByteArray} {r0:ByteArray}:Co.f k p0=some r0->Ct 9 [.s p0] [.s r0]:=by
 refine Ax Tryz.func9 rfl rfl rfl rfl ?_;unfold Co.f
 repeat' first
  | refine stp ?_
  | (with_reducible refine spr ?_;rintro ⟨⟩)
  | with_reducible refine And.intro ?_ ?_
  | intro h
  | refine RK.call (BF.ct (by assumption)) rfl rfl rfl ?_
  | refine RK.call (AE.ct (by assumption)) rfl rfl rfl ?_
  | refine RK.fz 3 rfl ?_
  | refine rks ?_
  | exact (rfl:_=_)
  | (refine BA (λn σ=>∃ x0 x3 x4 x5 x6,σ=[(0,.v (.s x0)),(3,.v (.f .i x3)),(4,.v (.s x4)),(5,.v (.i x5)),(6,.v (.i x6))]/\Co.l0 n x0 x3 x4 x5 x6=some r0) _ _ ⟨_,_,_,_,_,rfl,by first | with_reducible exact h | exact h⟩ ⟨⟨rfl,rfl,rfl,rfl,rfl,trivial⟩,rfl⟩ ?_;rintro (_ | _) _ _ ⟨x0,x3,x4,x5,x6,rfl,h⟩;cases h;simp only [Co.l0] at h;revert h)
  | (refine Bz _ _ ⟨_,_,_,_,_,rfl,by first | with_reducible exact h | exact h⟩ ⟨⟨rfl,rfl,rfl,rfl,rfl,trivial⟩,rfl⟩ ?_;omega)
  | fail
end
end Go.Proofs.YtlgojeodceiglaaGreatDoor.PFnExactExecute
