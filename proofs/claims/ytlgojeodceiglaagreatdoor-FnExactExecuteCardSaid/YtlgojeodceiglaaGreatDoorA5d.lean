/- Execute: a part of what is shown of the program's Execute and the reference's. -/
import Derived.Test.YtlgojeodceiglaaGreatDoorA5c
namespace Go.Proofs.YtlgojeodceiglaaGreatDoor.PFnExactExecute
open Go.RowKit Go.Proofs.YtlgojeodceiglaaGreatDoorW.PrintWords Go.Proofs.YtlgojeodceiglaaGreatDoorW.PrintLast Go.Proofs.YtlgojeodceiglaaGreatDoorW.PrintMore
attribute [local go_sem] WO WQ WS WT WM WN WP WR
set_option linter.unusedVariables false
set_option linter.unusedSimpArgs false
set_option maxRecDepth 100000
set_option maxHeartbeats 0
section
theorem D0.ct {k:Nat} {p0:List Int} {r0:Int} {r1:Bool}:D0.f k p0=some (r0,r1)->Ct 148 [.f .i p0] [.i r0,.b r1]:=by
 refine Ax Tryz.func148 rfl rfl rfl rfl ?_;unfold D0.f
 repeat' first
  | refine stp ?_
  | (with_reducible refine spr ?_;rintro ⟨⟩)
  | with_reducible refine And.intro ?_ ?_
  | intro h
  | refine RK.call (Ar.ct (by assumption)) rfl rfl rfl ?_
  | refine RK.call (Au.ct (by assumption)) rfl rfl rfl ?_
  | refine rks ?_
  | exact And.intro rfl rfl
  | fail
theorem Cc.ct {k:Nat} {p0:List Int} {r0:Int}:Cc.f k p0=some r0->Ct 210 [.f .i p0] [.i r0]:=by
 refine Ax Tryz.func210 rfl rfl rfl rfl ?_;unfold Cc.f
 repeat' first
  | refine stp ?_
  | (with_reducible refine spr ?_;rintro ⟨⟩)
  | with_reducible refine And.intro ?_ ?_
  | intro h
  | refine rks ?_
  | exact (rfl:_=_)
  | (refine BA (λn σ=>∃ x0 x3 x4,σ=[(0,.v (.f .i x0)),(3,.v (.i x3)),(4,.v (.i x4))]/\Cc.l0 n x0 x3 x4=some r0) _ _ ⟨_,_,_,rfl,by first | with_reducible exact h | exact h⟩ ⟨⟨rfl,rfl,rfl,trivial⟩,rfl⟩ ?_;rintro (_ | _) _ _ ⟨x0,x3,x4,rfl,h⟩;cases h;simp only [Cc.l0] at h;revert h)
  | (refine Bz _ _ ⟨_,_,_,rfl,by first | with_reducible exact h | exact h⟩ ⟨⟨rfl,rfl,rfl,trivial⟩,rfl⟩ ?_;omega)
  | fail
theorem Ds.ct {k:Nat} {p0:List Int} {p1:Int} {r0:List Int}:Ds.f k p0 p1=some r0->Ct 283 [.f .i p0,.i p1] [.o .i r0]:=by
 refine Ax Tryz.func283 rfl rfl rfl rfl ?_;unfold Ds.f
 repeat' first
  | refine stp ?_
  | (with_reducible refine spr ?_;rintro ⟨⟩)
  | with_reducible refine And.intro ?_ ?_
  | intro h
  | refine rks ?_
  | exact Exists.intro _ rfl
  | (refine BA (λn σ=>∃ x0 x1 x5 x6,σ=[(0,.v (.f .i x0)),(1,.v (.i x1)),(5,.v (.o .i x5)),(6,.v (.i x6))]/\Ds.l0 n x0 x1 x5 x6=some r0) _ _ ⟨_,_,_,_,rfl,by first | with_reducible exact h | exact h⟩ ⟨⟨rfl,rfl,rfl,rfl,trivial⟩,rfl⟩ ?_;rintro (_ | _) _ _ ⟨x0,x1,x5,x6,rfl,h⟩;cases h;simp only [Ds.l0] at h;revert h)
  | (refine Bz _ _ ⟨_,_,_,_,rfl,by first | with_reducible exact h | exact h⟩ ⟨⟨rfl,rfl,rfl,rfl,trivial⟩,rfl⟩ ?_;omega)
  | fail
theorem AR.ct:∀ {k:Nat} {p0:List Int} {p1:List Int} {p2:Int} {r0:List (List Int)},AR.f k p0 p1 p2=some r0->Ct 262 [.f .i p0,.f .i p1,.i p2] [.o .l r0]:=by
 intro k
 induction k using Nat.strongRecOn with
 | ind k IH=>
 intro p0 p1 p2 r0;have ih:∀ {k':Nat} {p0:List Int} {p1:List Int} {p2:Int} {r0:List (List Int)},AR.f k' p0 p1 p2=some r0->k'<k->Ct 262 [.f .i p0,.f .i p1,.i p2] [.o .l r0]:=λh hk=>IH _ hk h;clear IH
 cases k with
 | zero=>exact spz
 | succ k=>
 refine Ax Tryz.func262 rfl rfl rfl rfl ?_;simp only [AR.f]
 repeat' first
  | refine stp ?_
  | (with_reducible refine spr ?_;rintro ⟨⟩)
  | with_reducible refine And.intro ?_ ?_
  | intro h
  | refine DB false false (by kernel_rfl) rfl ?_
  | refine RK.call (ih (by assumption) (by omega)) rfl rfl rfl ?_
  | refine RK.call (Ds.ct (by assumption)) rfl rfl rfl ?_
  | refine RK.call (Ca.ct (by assumption)) rfl rfl rfl ?_
  | refine RK.fz 38 rfl ?_
  | refine RK.fz 84 rfl ?_
  | refine rks ?_
  | exact Exists.intro _ rfl
  | (refine BA (λn σ=>∃ x1 x2 x8,σ=[(1,.v (.f .i x1)),(2,.v (.i x2)),(8,.v (.i x8))]/\AR.l0 n x1 x2 x8=some r0) _ _ ⟨_,_,_,rfl,by first | with_reducible exact h | exact h⟩ ⟨⟨rfl,rfl,rfl,trivial⟩,rfl⟩ ?_;rintro (_ | _) _ _ ⟨x1,x2,x8,rfl,h⟩;cases h;simp only [AR.l0] at h;revert h)
  | (refine Bz _ _ ⟨_,_,_,rfl,by first | with_reducible exact h | exact h⟩ ⟨⟨rfl,rfl,rfl,trivial⟩,rfl⟩ ?_;omega)
  | (refine BA (λn σ=>∃ x0 x1 x2 x7 x9 x10,σ=[(0,.v (.f .i x0)),(1,.v (.f .i x1)),(2,.v (.i x2)),(7,.v (.i x7)),(9,.v (.o .l x9)),(10,.v (.i x10))]/\AR.l1 n x0 x1 x2 x7 x9 x10=some r0) _ _ ⟨_,_,_,_,_,_,rfl,by first | with_reducible exact h | exact h⟩ ⟨⟨rfl,rfl,rfl,rfl,rfl,rfl,trivial⟩,rfl⟩ ?_;rintro (_ | _) _ _ ⟨x0,x1,x2,x7,x9,x10,rfl,h⟩;cases h;simp only [AR.l1] at h;revert h)
  | (refine Bz _ _ ⟨_,_,_,_,_,_,rfl,by first | with_reducible exact h | exact h⟩ ⟨⟨rfl,rfl,rfl,rfl,rfl,rfl,trivial⟩,rfl⟩ ?_;omega)
  | fail
theorem CJ.ct {k:Nat} {p0:List Int} {r0:List Int}:CJ.f k p0=some r0->Ct 211 [.f .i p0] [.f .i r0]:=by
 refine Ax Tryz.func211 rfl rfl rfl rfl ?_;unfold CJ.f
 repeat' first
  | refine stp ?_
  | (with_reducible refine spr ?_;rintro ⟨⟩)
  | with_reducible refine And.intro ?_ ?_
  | intro h
  | refine RK.call (AR.ct (by assumption)) rfl rfl rfl ?_
  | refine RK.call (Cc.ct (by assumption)) rfl rfl rfl ?_
  | refine RK.fz 7 rfl ?_
  | refine rks ?_
  | exact (rfl:_=_)
  | (refine BA (λn σ=>∃ x3 x4 x5,σ=[(3,.v (.o .l x3)),(4,.v (.f .i x4)),(5,.v (.i x5))]/\CJ.l0 n x3 x4 x5=some r0) _ _ ⟨_,_,_,rfl,by first | with_reducible exact h | exact h⟩ ⟨⟨rfl,rfl,rfl,trivial⟩,rfl⟩ ?_;rintro (_ | _) _ _ ⟨x3,x4,x5,rfl,h⟩;cases h;simp only [CJ.l0] at h;revert h)
  | (refine Bz _ _ ⟨_,_,_,rfl,by first | with_reducible exact h | exact h⟩ ⟨⟨rfl,rfl,rfl,trivial⟩,rfl⟩ ?_;omega)
  | fail
theorem DH.ct {k:Nat} {p0:List Int} {r0:Int} {r1:Bool}:DH.f k p0=some (r0,r1)->Ct 149 [.f .i p0] [.i r0,.b r1]:=by
 refine Ax Tryz.func149 rfl rfl rfl rfl ?_;unfold DH.f
 repeat' first
  | refine stp ?_
  | (with_reducible refine spr ?_;rintro ⟨⟩)
  | with_reducible refine And.intro ?_ ?_
  | intro h
  | refine RK.call (Ar.ct (by assumption)) rfl rfl rfl ?_
  | refine RK.call (CJ.ct (by assumption)) rfl rfl rfl ?_
  | refine RK.call (Cc.ct (by assumption)) rfl rfl rfl ?_
  | refine rks ?_
  | exact And.intro rfl rfl
  | fail
theorem Bs.ct {k:Nat} {p0:List Int} {r0:Int} {r1:Bool}:Bs.f k p0=some (r0,r1)->Ct 150 [.f .i p0] [.i r0,.b r1]:=by
 refine Ax Tryz.func150 rfl rfl rfl rfl ?_;unfold Bs.f
 repeat' first
  | refine stp ?_
  | (with_reducible refine spr ?_;rintro ⟨⟩)
  | with_reducible refine And.intro ?_ ?_
  | intro h
  | refine RK.call (Ar.ct (by assumption)) rfl rfl rfl ?_
  | refine RK.call (B4.ct (by assumption)) rfl rfl rfl ?_
  | refine rks ?_
  | exact And.intro rfl rfl
  | (refine BA (λn σ=>∃ x0 x4 x5,σ=[(0,.v (.f .i x0)),(4,.v (.i x4)),(5,.v (.i x5))]/\Bs.l0 n x0 x4 x5=some (r0,r1)) _ _ ⟨_,_,_,rfl,by first | with_reducible exact h | exact h⟩ ⟨⟨rfl,rfl,rfl,trivial⟩,rfl⟩ ?_;rintro (_ | _) _ _ ⟨x0,x4,x5,rfl,h⟩;cases h;simp only [Bs.l0] at h;revert h)
  | (refine Bz _ _ ⟨_,_,_,rfl,by first | with_reducible exact h | exact h⟩ ⟨⟨rfl,rfl,rfl,trivial⟩,rfl⟩ ?_;omega)
  | (refine BA (λn σ=>∃ x0 x4 x5 x6 x7,σ=[(0,.v (.f .i x0)),(4,.v (.i x4)),(5,.v (.i x5)),(6,.v (.i x6)),(7,.v (.i x7))]/\Bs.l1 n x0 x4 x5 x6 x7=some (r0,r1)) _ _ ⟨_,_,_,_,_,rfl,by first | with_reducible exact h | exact h⟩ ⟨⟨rfl,rfl,rfl,rfl,rfl,trivial⟩,rfl⟩ ?_;rintro (_ | _) _ _ ⟨x0,x4,x5,x6,x7,rfl,h⟩;cases h;simp only [Bs.l1] at h;revert h)
  | (refine Bz _ _ ⟨_,_,_,_,_,rfl,by first | with_reducible exact h | exact h⟩ ⟨⟨rfl,rfl,rfl,rfl,rfl,trivial⟩,rfl⟩ ?_;omega)
  | fail
end
end Go.Proofs.YtlgojeodceiglaaGreatDoor.PFnExactExecute
