/- Execute: a part of what is shown of the program's Execute and the reference's. -/
import Derived.Test.YtlgojeodceiglaaGreatDoorA6c
namespace Go.Proofs.YtlgojeodceiglaaGreatDoor.PFnExactExecute
open Go.RowKit Go.Proofs.YtlgojeodceiglaaGreatDoorW.PrintWords Go.Proofs.YtlgojeodceiglaaGreatDoorW.PrintLast Go.Proofs.YtlgojeodceiglaaGreatDoorW.PrintMore
attribute [local go_sem] WO WQ WS WT WM WN WP WR
set_option linter.unusedVariables false
set_option linter.unusedSimpArgs false
set_option maxRecDepth 100000
set_option maxHeartbeats 0
section
theorem Fy.ct {p0:Int} {p1:Int} {r0:Int}:Fy.f p0 p1=some r0->Ct 284 [.i p0,.i p1] [.i r0]:=by
 refine Ax Tryz.func284 rfl rfl rfl rfl ?_;unfold Fy.f
 repeat' first
  | refine stp ?_
  | (with_reducible refine spr ?_;rintro ⟨⟩)
  | with_reducible refine And.intro ?_ ?_
  | intro h
  | refine rks ?_
  | exact (rfl:_=_)
  | fail
theorem CC.ct {k:Nat} {p0:List Int} {p1:List Int} {r0:List Int}:CC.f k p0 p1=some r0->Ct 267 [.f .i p0,.f .i p1] [.o .i r0]:=by
 refine Ax Tryz.func267 rfl rfl rfl rfl ?_;unfold CC.f
 repeat' first
  | refine stp ?_
  | (with_reducible refine spr ?_;rintro ⟨⟩)
  | with_reducible refine And.intro ?_ ?_
  | intro h
  | refine DB false false (by kernel_rfl) rfl ?_
  | refine RK.call (Fy.ct (by assumption)) rfl rfl rfl ?_
  | refine rks ?_
  | exact Exists.intro _ rfl
  | (refine BA (λn σ=>∃ x0 x1 x5 x6,σ=[(0,.v (.f .i x0)),(1,.v (.f .i x1)),(5,.v (.o .i x5)),(6,.v (.i x6))]/\CC.l0 n x0 x1 x5 x6=some r0) _ _ ⟨_,_,_,_,rfl,by first | with_reducible exact h | exact h⟩ ⟨⟨rfl,rfl,rfl,rfl,trivial⟩,rfl⟩ ?_;rintro (_ | _) _ _ ⟨x0,x1,x5,x6,rfl,h⟩;cases h;simp only [CC.l0] at h;revert h)
  | (refine Bz _ _ ⟨_,_,_,_,rfl,by first | with_reducible exact h | exact h⟩ ⟨⟨rfl,rfl,rfl,rfl,trivial⟩,rfl⟩ ?_;omega)
  | (refine BA (λn σ=>∃ x0 x1 x5 x6 x7,σ=[(0,.v (.f .i x0)),(1,.v (.f .i x1)),(5,.v (.o .i x5)),(6,.v (.i x6)),(7,.v (.i x7))]/\CC.l1 n x0 x1 x5 x6 x7=some r0) _ _ ⟨_,_,_,_,_,rfl,by first | with_reducible exact h | exact h⟩ ⟨⟨rfl,rfl,rfl,rfl,rfl,trivial⟩,rfl⟩ ?_;rintro (_ | _) _ _ ⟨x0,x1,x5,x6,x7,rfl,h⟩;cases h;simp only [CC.l1] at h;revert h)
  | (refine Bz _ _ ⟨_,_,_,_,_,rfl,by first | with_reducible exact h | exact h⟩ ⟨⟨rfl,rfl,rfl,rfl,rfl,trivial⟩,rfl⟩ ?_;omega)
  | fail
theorem Dr.ct {k:Nat} {p0:List Int} {p1:List Int} {r0:Bool}:Dr.f k p0 p1=some r0->Ct 268 [.f .i p0,.f .i p1] [.b r0]:=by
 refine Ax Tryz.func268 rfl rfl rfl rfl ?_;unfold Dr.f
 repeat' first
  | refine stp ?_
  | (with_reducible refine spr ?_;rintro ⟨⟩)
  | with_reducible refine And.intro ?_ ?_
  | intro h
  | refine DB false false (by kernel_rfl) rfl ?_
  | refine rks ?_
  | exact (rfl:_=_)
  | (refine BA (λn σ=>∃ x0 x1 x5,σ=[(0,.v (.f .i x0)),(1,.v (.f .i x1)),(5,.v (.i x5))]/\Dr.l0 n x0 x1 x5=some r0) _ _ ⟨_,_,_,rfl,by first | with_reducible exact h | exact h⟩ ⟨⟨rfl,rfl,rfl,trivial⟩,rfl⟩ ?_;rintro (_ | _) _ _ ⟨x0,x1,x5,rfl,h⟩;cases h;simp only [Dr.l0] at h;revert h)
  | (refine Bz _ _ ⟨_,_,_,rfl,by first | with_reducible exact h | exact h⟩ ⟨⟨rfl,rfl,rfl,trivial⟩,rfl⟩ ?_;omega)
  | fail
theorem AC.ct {k:Nat} {p0:List Int} {r0:List Int}:AC.f k p0=some r0->Ct 228 [.f .i p0] [.o .i r0]:=by
 refine Ax Tryz.func228 rfl rfl rfl rfl ?_;unfold AC.f
 repeat' first
  | refine stp ?_
  | (with_reducible refine spr ?_;rintro ⟨⟩)
  | (unfold AC.j3;split;exact spz)
  | with_reducible refine And.intro ?_ ?_
  | intro h
  | refine RK.call (CC.ct (by assumption)) rfl rfl rfl ?_
  | refine RK.call (Dr.ct (by assumption)) rfl rfl rfl ?_
  | refine rks ?_
  | exact Exists.intro _ rfl
  | (refine BA (λn σ=>∃ x0 x3 x4,σ=[(0,.v (.f .i x0)),(3,.v (.o .i x3)),(4,.v (.i x4))]/\AC.l0 n x0 x3 x4=some r0) _ _ ⟨_,_,_,rfl,by first | with_reducible exact h | exact h⟩ ⟨⟨rfl,rfl,rfl,trivial⟩,rfl⟩ ?_;rintro (_ | _) _ _ ⟨x0,x3,x4,rfl,h⟩;cases h;simp only [AC.l0] at h;revert h)
  | (refine Bz _ _ ⟨_,_,_,rfl,by first | with_reducible exact h | exact h⟩ ⟨⟨rfl,rfl,rfl,trivial⟩,rfl⟩ ?_;omega)
  | (refine BA (λn σ=>∃ x0 x3 x4 x5,σ=[(0,.v (.f .i x0)),(3,.v (.o .i x3)),(4,.v (.i x4)),(5,.v (.i x5))]/\AC.l1 n x0 x3 x4 x5=some r0) _ _ ⟨_,_,_,_,rfl,by first | with_reducible exact h | exact h⟩ ⟨⟨rfl,rfl,rfl,rfl,trivial⟩,rfl⟩ ?_;rintro (_ | _) _ _ ⟨x0,x3,x4,x5,rfl,h⟩;cases h;simp only [AC.l1] at h;revert h)
  | (refine Bz _ _ ⟨_,_,_,_,rfl,by first | with_reducible exact h | exact h⟩ ⟨⟨rfl,rfl,rfl,rfl,trivial⟩,rfl⟩ ?_;omega)
  | (refine BA (λn σ=>∃ x0 x3 x4 x5 x6,σ=[(0,.v (.f .i x0)),(3,.v (.o .i x3)),(4,.v (.i x4)),(5,.v (.i x5)),(6,.v (.i x6))]/\AC.l2 n x0 x3 x4 x5 x6=some r0) _ _ ⟨_,_,_,_,_,rfl,by first | with_reducible exact h | exact h⟩ ⟨⟨rfl,rfl,rfl,rfl,rfl,trivial⟩,rfl⟩ ?_;rintro (_ | _) _ _ ⟨x0,x3,x4,x5,x6,rfl,h⟩;cases h;simp only [AC.l2] at h;revert h)
  | (refine Bz _ _ ⟨_,_,_,_,_,rfl,by first | with_reducible exact h | exact h⟩ ⟨⟨rfl,rfl,rfl,rfl,rfl,trivial⟩,rfl⟩ ?_;omega)
  | fail
theorem Do.ct {k:Nat} {p0:List Int} {r0:List Int} {r1:Bool}:Do.f k p0=some (r0,r1)->Ct 161 [.f .i p0] [.o .i r0,.b r1]:=by
 refine Ax Tryz.func161 rfl rfl rfl rfl ?_;unfold Do.f
 repeat' first
  | refine stp ?_
  | (with_reducible refine spr ?_;rintro ⟨⟩)
  | with_reducible refine And.intro ?_ ?_
  | intro h
  | refine RK.call (CN.ct (by assumption)) rfl rfl rfl ?_
  | refine RK.call (AC.ct (by assumption)) rfl rfl rfl ?_
  | refine rks ?_
  | exact And.intro (Exists.intro _ rfl) rfl
  | fail
theorem An.ct:∀ {k:Nat} {p0:ByteArray} {p1:Int} {r0:Int} {s0:List S150} {r1:Int},An.f k p0 p1=some (r0,s0,r1)->Ct 270 [.s p0,.i p1] [.h (.k .n ⟨r0,s0⟩),.i r1]:=by
 intro k
 induction k using Nat.strongRecOn with
 | ind k IH=>
 intro p0 p1 r0 s0 r1;have ih:∀ {k':Nat} {p0:ByteArray} {p1:Int} {r0:Int} {s0:List S150} {r1:Int},An.f k' p0 p1=some (r0,s0,r1)->k'<k->Ct 270 [.s p0,.i p1] [.h (.k .n ⟨r0,s0⟩),.i r1]:=λh hk=>IH _ hk h;clear IH
 cases k with
 | zero=>exact spz
 | succ k=>
 refine Ax Tryz.func270 rfl rfl rfl rfl ?_;simp only [An.f]
 repeat' first
  | refine stp ?_
  | (with_reducible refine spr ?_;rintro ⟨⟩)
  | with_reducible refine And.intro ?_ ?_
  | intro h
  | refine RK.call (ih (by assumption) (by omega)) rfl rfl rfl ?_
  | refine RK.fi rfl rfl rfl ?_
  | refine rks ?_
  | exact And.intro (Exists.intro _ (Exists.intro _ (And.intro rfl (And.intro rfl rfl)))) rfl
  | fail
theorem Eb.ct {k:Nat} {p0:ByteArray} {r0:Int} {s0:List S150} {r1:Bool}:Eb.f k p0=some (r0,s0,r1)->Ct 232 [.s p0] [.h (.k .n ⟨r0,s0⟩),.b r1]:=by
 refine Ax Tryz.func232 rfl rfl rfl rfl ?_;unfold Eb.f
 repeat' first
  | refine stp ?_
  | (with_reducible refine spr ?_;rintro ⟨⟩)
  | with_reducible refine And.intro ?_ ?_
  | intro h
  | refine RK.call (An.ct (by assumption)) rfl rfl rfl ?_
  | refine RK.fi rfl rfl rfl ?_
  | refine rks ?_
  | exact And.intro (Exists.intro _ (Exists.intro _ (And.intro rfl (And.intro rfl rfl)))) rfl
  | fail
end
end Go.Proofs.YtlgojeodceiglaaGreatDoor.PFnExactExecute
