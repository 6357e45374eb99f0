/- Execute: a part of what is shown of the program's Execute and the reference's. -/
import Derived.Test.YtlgojeodceiglaaGreatDoorA6b
namespace Go.Proofs.YtlgojeodceiglaaGreatDoor.PFnExactExecute
open Go.RowKit Go.Proofs.YtlgojeodceiglaaGreatDoorW.PrintWords Go.Proofs.YtlgojeodceiglaaGreatDoorW.PrintLast Go.Proofs.YtlgojeodceiglaaGreatDoorW.PrintMore
attribute [local go_sem] WO WQ WS WT WM WN WP WR
set_option linter.unusedVariables false
set_option linter.unusedSimpArgs false
set_option maxRecDepth 100000
set_option maxHeartbeats 0
section
theorem EY.ct {p0:Int} {p1:Int} {r0:Bool}:EY.f p0 p1=some r0->Ct 223 [.i p0,.i p1] [.b r0]:=by
 refine Ax Tryz.func223 rfl rfl rfl rfl ?_;unfold EY.f
 repeat' first
  | refine stp ?_
  | (with_reducible refine spr ?_;rintro ⟨⟩)
  | with_reducible refine And.intro ?_ ?_
  | intro h
  | refine RK.call (Cu.ct (by assumption)) rfl rfl rfl ?_
  | refine rks ?_
  | exact (rfl:_=_)
  | fail
theorem Bx.ct:∀ {k:Nat} {p0:Int} {p1:Int} {p2:Int} {r0:List (List Int)},Bx.f k p0 p1 p2=some r0->Ct 224 [.i p0,.i p1,.i p2] [.o .l r0]:=by
 intro k
 induction k using Nat.strongRecOn with
 | ind k IH=>
 intro p0 p1 p2 r0;have ih:∀ {k':Nat} {p0:Int} {p1:Int} {p2:Int} {r0:List (List Int)},Bx.f k' p0 p1 p2=some r0->k'<k->Ct 224 [.i p0,.i p1,.i p2] [.o .l r0]:=λh hk=>IH _ hk h;clear IH
 cases k with
 | zero=>exact spz
 | succ k=>
 refine Ax Tryz.func224 rfl rfl rfl rfl ?_;simp only [Bx.f]
 repeat' first
  | refine stp ?_
  | (with_reducible refine spr ?_;rintro ⟨⟩)
  | with_reducible refine And.intro ?_ ?_
  | intro h
  | refine RK.call (ih (by assumption) (by omega)) rfl rfl rfl ?_
  | refine rks ?_
  | exact Exists.intro _ rfl
  | (refine BA (λn σ=>∃ x0 x1 x7 x8,σ=[(0,.v (.i x0)),(1,.v (.i x1)),(7,.v (.o .l x7)),(8,.v (.i x8))]/\Bx.l0 n x0 x1 x7 x8=some r0) _ _ ⟨_,_,_,_,rfl,by first | with_reducible exact h | exact h⟩ ⟨⟨rfl,rfl,rfl,rfl,trivial⟩,rfl⟩ ?_;rintro (_ | _) _ _ ⟨x0,x1,x7,x8,rfl,h⟩;cases h;simp only [Bx.l0] at h;revert h)
  | (refine Bz _ _ ⟨_,_,_,_,rfl,by first | with_reducible exact h | exact h⟩ ⟨⟨rfl,rfl,rfl,rfl,trivial⟩,rfl⟩ ?_;omega)
  | (refine BA (λn σ=>∃ x0 x1 x7 x8 x9 x10,σ=[(0,.v (.i x0)),(1,.v (.i x1)),(7,.v (.o .l x7)),(8,.v (.i x8)),(9,.v (.o .l x9)),(10,.v (.i x10))]/\Bx.l1 n x0 x1 x7 x8 x9 x10=some r0) _ _ ⟨_,_,_,_,_,_,rfl,by first | with_reducible exact h | exact h⟩ ⟨⟨rfl,rfl,rfl,rfl,rfl,rfl,trivial⟩,rfl⟩ ?_;rintro (_ | _) _ _ ⟨x0,x1,x7,x8,x9,x10,rfl,h⟩;cases h;simp only [Bx.l1] at h;revert h)
  | (refine Bz _ _ ⟨_,_,_,_,_,_,rfl,by first | with_reducible exact h | exact h⟩ ⟨⟨rfl,rfl,rfl,rfl,rfl,rfl,trivial⟩,rfl⟩ ?_;omega)
  | fail
theorem Cf.ct {k:Nat} {p0:Int} {p1:Int} {r0:Int} {r1:Bool}:Cf.f k p0 p1=some (r0,r1)->Ct 158 [.i p0,.i p1] [.i r0,.b r1]:=by
 refine Ax Tryz.func158 rfl rfl rfl rfl ?_;unfold Cf.f
 repeat' first
  | refine stp ?_
  | (with_reducible refine spr ?_;rintro ⟨⟩)
  | with_reducible refine And.intro ?_ ?_
  | intro h
  | refine RK.call (EY.ct (by assumption)) rfl rfl rfl ?_
  | refine RK.call (Bx.ct (by assumption)) rfl rfl rfl ?_
  | refine RK.call (CW.ct (by assumption)) rfl rfl rfl ?_
  | refine rks ?_
  | exact And.intro rfl rfl
  | (refine BA (λn σ=>∃ x6 x7 x8,σ=[(6,.v (.i x6)),(7,.v (.o .l x7)),(8,.v (.i x8))]/\Cf.l0 n x6 x7 x8=some (r0,r1)) _ _ ⟨_,_,_,rfl,by first | with_reducible exact h | exact h⟩ ⟨⟨rfl,rfl,rfl,trivial⟩,rfl⟩ ?_;rintro (_ | _) _ _ ⟨x6,x7,x8,rfl,h⟩;cases h;simp only [Cf.l0] at h;revert h)
  | (refine Bz _ _ ⟨_,_,_,rfl,by first | with_reducible exact h | exact h⟩ ⟨⟨rfl,rfl,rfl,trivial⟩,rfl⟩ ?_;omega)
  | fail
theorem Fs.ct {k:Nat} {p0:List Int} {p1:Int} {r0:Bool}:Fs.f k p0 p1=some r0->Ct 225 [.f .i p0,.i p1] [.b r0]:=by
 refine Ax Tryz.func225 rfl rfl rfl rfl ?_;unfold Fs.f
 repeat' first
  | refine stp ?_
  | (with_reducible refine spr ?_;rintro ⟨⟩)
  | with_reducible refine And.intro ?_ ?_
  | intro h
  | refine RK.call (Dx.ct (by assumption)) rfl rfl rfl ?_
  | refine rks ?_
  | exact (rfl:_=_)
  | fail
theorem Bc.ct {k:Nat} {p0:List Int} {p1:Int} {r0:Int} {r1:Bool}:Bc.f k p0 p1=some (r0,r1)->Ct 159 [.f .i p0,.i p1] [.i r0,.b r1]:=by
 refine Ax Tryz.func159 rfl rfl rfl rfl ?_;unfold Bc.f
 repeat' first
  | refine stp ?_
  | (with_reducible refine spr ?_;rintro ⟨⟩)
  | (unfold Bc.j0;split;exact spz)
  | with_reducible refine And.intro ?_ ?_
  | intro h
  | refine RK.call (Ar.ct (by assumption)) rfl rfl rfl ?_
  | refine RK.call (Cu.ct (by assumption)) rfl rfl rfl ?_
  | refine RK.call (Fs.ct (by assumption)) rfl rfl rfl ?_
  | refine rks ?_
  | exact And.intro rfl rfl
  | (refine BA (λn σ=>∃ x0 x1 x6,σ=[(0,.v (.f .i x0)),(1,.v (.i x1)),(6,.v (.i x6))]/\Bc.l0 n x0 x1 x6=some (r0,r1)) _ _ ⟨_,_,_,rfl,by first | with_reducible exact h | exact h⟩ ⟨⟨rfl,rfl,rfl,trivial⟩,rfl⟩ ?_;rintro (_ | _) _ _ ⟨x0,x1,x6,rfl,h⟩;cases h;simp only [Bc.l0] at h;revert h)
  | (refine Bz _ _ ⟨_,_,_,rfl,by first | with_reducible exact h | exact h⟩ ⟨⟨rfl,rfl,rfl,trivial⟩,rfl⟩ ?_;omega)
  | fail
theorem CN.ct {k:Nat} {p0:List Int} {r0:Bool}:CN.f k p0=some r0->Ct 226 [.f .i p0] [.b r0]:=by
 refine Ax Tryz.func226 rfl rfl rfl rfl ?_;unfold CN.f
 repeat' first
  | refine stp ?_
  | (with_reducible refine spr ?_;rintro ⟨⟩)
  | with_reducible refine And.intro ?_ ?_
  | intro h
  | refine RK.call (Cu.ct (by assumption)) rfl rfl rfl ?_
  | refine rks ?_
  | exact (rfl:_=_)
  | (refine BA (λn σ=>∃ x0 x3,σ=[(0,.v (.f .i x0)),(3,.v (.i x3))]/\CN.l0 n x0 x3=some r0) _ _ ⟨_,_,rfl,by first | with_reducible exact h | exact h⟩ ⟨⟨rfl,rfl,trivial⟩,rfl⟩ ?_;rintro (_ | _) _ _ ⟨x0,x3,rfl,h⟩;cases h;simp only [CN.l0] at h;revert h)
  | (refine Bz _ _ ⟨_,_,rfl,by first | with_reducible exact h | exact h⟩ ⟨⟨rfl,rfl,trivial⟩,rfl⟩ ?_;omega)
  | fail
theorem D1.ct {p0:List Int} {r0:Int}:D1.f p0=some r0->Ct 227 [.f .i p0] [.i r0]:=by
 refine Ax Tryz.func227 rfl rfl rfl rfl ?_;unfold D1.f
 repeat' first
  | refine stp ?_
  | (with_reducible refine spr ?_;rintro ⟨⟩)
  | with_reducible refine And.intro ?_ ?_
  | intro h
  | refine DB false false (by kernel_rfl) rfl ?_
  | refine rks ?_
  | exact (rfl:_=_)
  | fail
theorem Dg.ct {k:Nat} {p0:List Int} {r0:Int} {r1:Bool}:Dg.f k p0=some (r0,r1)->Ct 160 [.f .i p0] [.i r0,.b r1]:=by
 refine Ax Tryz.func160 rfl rfl rfl rfl ?_;unfold Dg.f
 repeat' first
  | refine stp ?_
  | (with_reducible refine spr ?_;rintro ⟨⟩)
  | with_reducible refine And.intro ?_ ?_
  | intro h
  | refine RK.call (CN.ct (by assumption)) rfl rfl rfl ?_
  | refine RK.call (D1.ct (by assumption)) rfl rfl rfl ?_
  | refine rks ?_
  | exact And.intro rfl rfl
  | fail
end
end Go.Proofs.YtlgojeodceiglaaGreatDoor.PFnExactExecute
