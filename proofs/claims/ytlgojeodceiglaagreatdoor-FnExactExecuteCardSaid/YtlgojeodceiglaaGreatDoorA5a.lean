/- Execute: a part of what is shown of the program's Execute and the reference's. -/
import Derived.Test.YtlgojeodceiglaaGreatDoorA2
namespace Go.Proofs.YtlgojeodceiglaaGreatDoor.PFnExactExecute
open Go.RowKit Go.Proofs.YtlgojeodceiglaaGreatDoorW.PrintWords Go.Proofs.YtlgojeodceiglaaGreatDoorW.PrintLast Go.Proofs.YtlgojeodceiglaaGreatDoorW.PrintMore
attribute [local go_sem] WO WQ WS WT WM WN WP WR
set_option linter.unusedVariables false
set_option linter.unusedSimpArgs false
set_option maxRecDepth 100000
set_option maxHeartbeats 0
section
theorem Cu.ct {p0:Int} {p1:Int} {p2:Int} {r0:Bool}:Cu.f p0 p1 p2=some r0->Ct 196 [.i p0,.i p1,.i p2] [.b r0]:=by
 refine Ax Tryz.func196 rfl rfl rfl rfl ?_;unfold Cu.f
 repeat' first
  | refine stp ?_
  | (with_reducible refine spr ?_;rintro ⟨⟩)
  | with_reducible refine And.intro ?_ ?_
  | intro h
  | refine rks ?_
  | exact (rfl:_=_)
  | fail
theorem Ay.ct {k:Nat} {p0:ByteArray} {r0:List Int}:Ay.f k p0=some r0->Ct 127 [.s p0] [.o .i r0]:=by
 refine Ax Tryz.func127 rfl rfl rfl rfl ?_;unfold Ay.f
 repeat' first
  | refine stp ?_
  | (with_reducible refine spr ?_;rintro ⟨⟩)
  | (unfold Ay.j1;split;exact spz)
  | with_reducible refine And.intro ?_ ?_
  | intro h
  | refine RK.call (Cu.ct (by assumption)) rfl rfl rfl ?_
  | refine rks ?_
  | exact Exists.intro _ rfl
  | (refine BA (λn σ=>∃ x0 x3 x4 x5,σ=[(0,.v (.s x0)),(3,.v (.o .i x3)),(4,.v (.i x4)),(5,.v (.i x5))]/\Ay.l0 n x0 x3 x4 x5=some r0) _ _ ⟨_,_,_,_,rfl,by first | with_reducible exact h | exact h⟩ ⟨⟨rfl,rfl,rfl,rfl,trivial⟩,rfl⟩ ?_;rintro (_ | _) _ _ ⟨x0,x3,x4,x5,rfl,h⟩;cases h;simp only [Ay.l0] at h;revert h)
  | (refine Bz _ _ ⟨_,_,_,_,rfl,by first | with_reducible exact h | exact h⟩ ⟨⟨rfl,rfl,rfl,rfl,trivial⟩,rfl⟩ ?_;omega)
  | (refine BA (λn σ=>∃ x0 x3 x5 x6 x7,σ=[(0,.v (.s x0)),(3,.v (.o .i x3)),(5,.v (.i x5)),(6,.v (.i x6)),(7,.v (.i x7))]/\Ay.l1 n x0 x3 x5 x6 x7=some r0) _ _ ⟨_,_,_,_,_,rfl,by first | with_reducible exact h | exact h⟩ ⟨⟨rfl,rfl,rfl,rfl,rfl,trivial⟩,rfl⟩ ?_;rintro (_ | _) _ _ ⟨x0,x3,x5,x6,x7,rfl,h⟩;cases h;simp only [Ay.l1] at h;revert h)
  | (refine Bz _ _ ⟨_,_,_,_,_,rfl,by first | with_reducible exact h | exact h⟩ ⟨⟨rfl,rfl,rfl,rfl,rfl,trivial⟩,rfl⟩ ?_;omega)
  | fail
theorem Ar.ct {k:Nat} {p0:List Int} {r0:Bool}:Ar.f k p0=some r0->Ct 136 [.f .i p0] [.b r0]:=by
 refine Ax Tryz.func136 rfl rfl rfl rfl ?_;unfold Ar.f
 repeat' first
  | refine stp ?_
  | (with_reducible refine spr ?_;rintro ⟨⟩)
  | with_reducible refine And.intro ?_ ?_
  | intro h
  | refine DB false false (by kernel_rfl) rfl ?_
  | refine RK.call (Cu.ct (by assumption)) rfl rfl rfl ?_
  | refine rks ?_
  | exact (rfl:_=_)
  | (refine BA (λn σ=>∃ x0 x3,σ=[(0,.v (.f .i x0)),(3,.v (.i x3))]/\Ar.l0 n x0 x3=some r0) _ _ ⟨_,_,rfl,by first | with_reducible exact h | exact h⟩ ⟨⟨rfl,rfl,trivial⟩,rfl⟩ ?_;rintro (_ | _) _ _ ⟨x0,x3,rfl,h⟩;cases h;simp only [Ar.l0] at h;revert h)
  | (refine Bz _ _ ⟨_,_,rfl,by first | with_reducible exact h | exact h⟩ ⟨⟨rfl,rfl,trivial⟩,rfl⟩ ?_;omega)
  | fail
theorem Fg.ct {k:Nat} {p0:List Int} {r0:List Int} {r1:Bool}:Fg.f k p0=some (r0,r1)->Ct 197 [.f .i p0] [.f .i r0,.b r1]:=by
 refine Ax Tryz.func197 rfl rfl rfl rfl ?_;unfold Fg.f
 repeat' first
  | refine stp ?_
  | (with_reducible refine spr ?_;rintro ⟨⟩)
  | with_reducible refine And.intro ?_ ?_
  | intro h
  | refine RK.call (Ar.ct (by assumption)) rfl rfl rfl ?_
  | refine rks ?_
  | exact And.intro rfl rfl
  | fail
theorem BP.ct {k:Nat} {p0:List Int} {r0:List Int}:BP.f k p0=some r0->Ct 198 [.f .i p0] [.o .i r0]:=by
 refine Ax Tryz.func198 rfl rfl rfl rfl ?_;unfold BP.f
 repeat' first
  | refine stp ?_
  | (with_reducible refine spr ?_;rintro ⟨⟩)
  | with_reducible refine And.intro ?_ ?_
  | intro h
  | ((with_reducible refine DB (id:=6) false false (by kernel_rfl) ?_ ?_);rfl)
  | ((with_reducible refine DB (id:=8) false true (by kernel_rfl) ?_ ?_);rfl)
  | refine RK.ap rfl rfl rfl rfl rfl (by (try simp only [IN,It,IS,IT,No,Mp] at *);omega) rfl ?_
  | refine rks ?_
  | exact Exists.intro _ rfl
  | (refine BA (λn σ=>∃ x0 x3 x4,σ=[(0,.v (.f .i x0)),(3,.v (.o .i x3)),(4,.v (.i x4))]/\BP.l0 n x0 x3 x4=some r0) _ _ ⟨_,_,_,rfl,by first | with_reducible exact h | exact h⟩ ⟨⟨rfl,rfl,rfl,trivial⟩,rfl⟩ ?_;rintro (_ | _) _ _ ⟨x0,x3,x4,rfl,h⟩;cases h;simp only [BP.l0] at h;revert h)
  | (refine Bz _ _ ⟨_,_,_,rfl,by first | with_reducible exact h | exact h⟩ ⟨⟨rfl,rfl,rfl,trivial⟩,rfl⟩ ?_;omega)
  | (refine BA (λn σ=>∃ x0 x3 x4 x5,σ=[(0,.v (.f .i x0)),(3,.v (.o .i x3)),(4,.v (.i x4)),(5,.v (.i x5))]/\BP.l1 n x0 x3 x4 x5=some r0) _ _ ⟨_,_,_,_,rfl,by first | with_reducible exact h | exact h⟩ ⟨⟨rfl,rfl,rfl,rfl,trivial⟩,rfl⟩ ?_;rintro (_ | _) _ _ ⟨x0,x3,x4,x5,rfl,h⟩;cases h;simp only [BP.l1] at h;revert h)
  | (refine Bz _ _ ⟨_,_,_,_,rfl,by first | with_reducible exact h | exact h⟩ ⟨⟨rfl,rfl,rfl,rfl,trivial⟩,rfl⟩ ?_;omega)
  | fail
theorem Ea.ct {k:Nat} {p0:List Int} {r0:List Int} {r1:Bool}:Ea.f k p0=some (r0,r1)->Ct 128 [.f .i p0] [.f .i r0,.b r1]:=by
 refine Ax Tryz.func128 rfl rfl rfl rfl ?_;unfold Ea.f
 repeat' first
  | refine stp ?_
  | (with_reducible refine spr ?_;rintro ⟨⟩)
  | with_reducible refine And.intro ?_ ?_
  | intro h
  | refine RK.call (BP.ct (by assumption)) rfl rfl rfl ?_
  | refine RK.call (Fg.ct (by assumption)) rfl rfl rfl ?_
  | refine RK.fz 9 rfl ?_
  | refine rks ?_
  | exact And.intro rfl rfl
  | fail
theorem Bj.ct {k:Nat} {p0:List Int} {r0:Bool}:Bj.f k p0=some r0->Ct 199 [.f .i p0] [.b r0]:=by
 refine Ax Tryz.func199 rfl rfl rfl rfl ?_;unfold Bj.f
 repeat' first
  | refine stp ?_
  | (with_reducible refine spr ?_;rintro ⟨⟩)
  | with_reducible refine And.intro ?_ ?_
  | intro h
  | refine RK.call (Cu.ct (by assumption)) rfl rfl rfl ?_
  | refine rks ?_
  | exact (rfl:_=_)
  | (refine BA (λn σ=>∃ x0 x3,σ=[(0,.v (.f .i x0)),(3,.v (.i x3))]/\Bj.l0 n x0 x3=some r0) _ _ ⟨_,_,rfl,by first | with_reducible exact h | exact h⟩ ⟨⟨rfl,rfl,trivial⟩,rfl⟩ ?_;rintro (_ | _) _ _ ⟨x0,x3,rfl,h⟩;cases h;simp only [Bj.l0] at h;revert h)
  | (refine Bz _ _ ⟨_,_,rfl,by first | with_reducible exact h | exact h⟩ ⟨⟨rfl,rfl,trivial⟩,rfl⟩ ?_;omega)
  | fail
theorem CF.ct {k:Nat} {p0:List Int} {r0:List Int} {r1:Bool}:CF.f k p0=some (r0,r1)->Ct 129 [.f .i p0] [.o .i r0,.b r1]:=by
 refine Ax Tryz.func129 rfl rfl rfl rfl ?_;unfold CF.f
 repeat' first
  | refine stp ?_
  | (with_reducible refine spr ?_;rintro ⟨⟩)
  | with_reducible refine And.intro ?_ ?_
  | intro h
  | refine RK.call (Bj.ct (by assumption)) rfl rfl rfl ?_
  | refine rks ?_
  | exact And.intro (Exists.intro _ rfl) rfl
  | (refine BA (λn σ=>∃ x0 x4 x5,σ=[(0,.v (.f .i x0)),(4,.v (.o .i x4)),(5,.v (.i x5))]/\CF.l0 n x0 x4 x5=some (r0,r1)) _ _ ⟨_,_,_,rfl,by first | with_reducible exact h | exact h⟩ ⟨⟨rfl,rfl,rfl,trivial⟩,rfl⟩ ?_;rintro (_ | _) _ _ ⟨x0,x4,x5,rfl,h⟩;cases h;simp only [CF.l0] at h;revert h)
  | (refine Bz _ _ ⟨_,_,_,rfl,by first | with_reducible exact h | exact h⟩ ⟨⟨rfl,rfl,rfl,trivial⟩,rfl⟩ ?_;omega)
  | fail
theorem Dt.ct {k:Nat} {p0:List Int} {r0:List Int} {r1:Bool}:Dt.f k p0=some (r0,r1)->Ct 130 [.f .i p0] [.f .i r0,.b r1]:=by
 refine Ax Tryz.func130 rfl rfl rfl rfl ?_;unfold Dt.f
 repeat' first
  | refine stp ?_
  | (with_reducible refine spr ?_;rintro ⟨⟩)
  | with_reducible refine And.intro ?_ ?_
  | intro h
  | refine RK.call (Bj.ct (by assumption)) rfl rfl rfl ?_
  | refine rks ?_
  | exact And.intro rfl rfl
  | fail
theorem Bu.ct {k:Nat} {p0:List Int} {p1:ByteArray} {p2:ByteArray} {p3:Bool} {r0:List Int} {r1:Bool} {r2:Bool}:Bu.f k p0 p1 p2 p3=some (r0,r1,r2)->Ct 80 [.f .i p0,.s p1,.s p2,.b p3] [.f .i r0,.b r1,.b r2]:=by
 refine Ax Tryz.func80 rfl rfl rfl rfl ?_;unfold Bu.f
 repeat' first
  | refine stp ?_
  | (with_reducible refine spr ?_;rintro ⟨⟩)
  | with_reducible refine And.intro ?_ ?_
  | intro h
  | refine DB true true (by kernel_rfl) rfl ?_
  | refine RK.call (Ay.ct (by assumption)) rfl rfl rfl ?_
  | refine RK.call (Ea.ct (by assumption)) rfl rfl rfl ?_
  | refine RK.call (CF.ct (by assumption)) rfl rfl rfl ?_
  | refine RK.call (Dt.ct (by assumption)) rfl rfl rfl ?_
  | refine RK.ap rfl rfl rfl rfl rfl (by (try simp only [IN,It,IS,IT,No,Mp] at *);omega) rfl ?_
  | refine RK.fc rfl (Dt.ct (by assumption)) rfl rfl ?_
  | refine RK.fz 11 rfl ?_
  | refine RK.fz 70 rfl ?_
  | refine RK.fz 106 rfl ?_
  | refine rks ?_
  | exact And.intro rfl (And.intro rfl rfl)
  | fail
end
end Go.Proofs.YtlgojeodceiglaaGreatDoor.PFnExactExecute
