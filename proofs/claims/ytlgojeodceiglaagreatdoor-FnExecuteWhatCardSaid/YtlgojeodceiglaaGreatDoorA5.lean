/- Execute: a part of what is shown of the program's Execute and the reference's. -/
import Derived.Test.YtlgojeodceiglaaGreatDoorA2
namespace Go.Proofs.YtlgojeodceiglaaGreatDoor.PFnExactExecute
open Go.RowKit Go.Proofs.YtlgojeodceiglaaGreatDoorW.PrintWords Go.Proofs.YtlgojeodceiglaaGreatDoorW.PrintLast Go.Proofs.YtlgojeodceiglaaGreatDoorW.PrintMore
attribute [local go_sem] WO WQ WS WT WM WN WP WR
set_option linter.unusedVariables false
set_option linter.unusedSimpArgs false
set_option maxRecDepth 100000
set_option maxHeartbeats 0
section
theorem Cu.ct {p0:Int} {p1:Int} {p2:Int} {r0:Bool}:Cu.f p0 p1 p2=some r0->Ct 196 [.i p0,.i p1,.i p2] [.b r0]:=by
 refine Ax Tryz.func196 rfl rfl rfl rfl ?_;unfold Cu.f
 repeat' first
  | refine stp ?_
  | (with_reducible refine spr ?_;rintro ⟨⟩)
  | with_reducible refine And.intro ?_ ?_
  | intro h
  | refine rks ?_
  | exact (rfl:_=_)
  | fail
theorem Ay.ct {k:Nat} {p0:ByteArray} {r0:List Int}:Ay.f k p0=some r0->Ct 127 [.s p0] [.o .i r0]:=by
 refine Ax Tryz.func127 rfl rfl rfl rfl ?_;unfold Ay.f
 repeat' first
  | refine stp ?_
  | (with_reducible refine spr ?_;rintro ⟨⟩)
  | (unfold Ay.j1;split;exact spz)
  | with_reducible refine And.intro ?_ ?_
  | intro h
  | refine RK.call (Cu.ct (by assumption)) rfl rfl rfl ?_
  | refine rks ?_
  | exact Exists.intro _ rfl
  | (refine BA (λn σ=>∃ x0 x3 x4 x5,σ=[(0,.v (.s x0)),(3,.v (.o .i x3)),(4,.v (.i x4)),(5,.v (.i x5))]/\Ay.l0 n x0 x3 x4 x5=some r0) _ _ ⟨_,_,_,_,rfl,by first | with_reducible exact h | exact h⟩ ⟨⟨rfl,rfl,rfl,rfl,trivial⟩,rfl⟩ ?_;rintro (_ | _) _ _ ⟨x0,x3,x4,x5,rfl,h⟩;cases h;simp only [Ay.l0] at h;revert h)
  | (refine Bz _ _ ⟨_,_,_,_,rfl,by first | with_reducible exact h | exact h⟩ ⟨⟨rfl,rfl,rfl,rfl,trivial⟩,rfl⟩ ?_;omega)
  | (refine BA (λn σ=>∃ x0 x3 x5 x6 x7,σ=[(0,.v (.s x0)),(3,.v (.o .i x3)),(5,.v (.i x5)),(6,.v (.i x6)),(7,.v (.i x7))]/\Ay.l1 n x0 x3 x5 x6 x7=some r0) _ _ ⟨_,_,_,_,_,rfl,by first | with_reducible exact h | exact h⟩ ⟨⟨rfl,rfl,rfl,rfl,rfl,trivial⟩,rfl⟩ ?_;rintro (_ | _) _ _ ⟨x0,x3,x5,x6,x7,rfl,h⟩;cases h;simp only [Ay.l1] at h;revert h)
  | (refine Bz _ _ ⟨_,_,_,_,_,rfl,by first | with_reducible exact h | exact h⟩ ⟨⟨rfl,rfl,rfl,rfl,rfl,trivial⟩,rfl⟩ ?_;omega)
  | fail
theorem Ar.ct {k:Nat} {p0:List Int} {r0:Bool}:Ar.f k p0=some r0->Ct 136 [.f .i p0] [.b r0]:=by
 refine Ax Tryz.func136 rfl rfl rfl rfl ?_;unfold Ar.f
 repeat' first
  | refine stp ?_
  | (with_reducible refine spr ?_;rintro ⟨⟩)
  | with_reducible refine And.intro ?_ ?_
  | intro h
  | refine DB false false (by kernel_rfl) rfl ?_
  | refine RK.call (Cu.ct (by assumption)) rfl rfl rfl ?_
  | refine rks ?_
  | exact (rfl:_=_)
  | (refine BA (λn σ=>∃ x0 x3,σ=[(0,.v (.f .i x0)),(3,.v (.i x3))]/\Ar.l0 n x0 x3=some r0) _ _ ⟨_,_,rfl,by first | with_reducible exact h | exact h⟩ ⟨⟨rfl,rfl,trivial⟩,rfl⟩ ?_;rintro (_ | _) _ _ ⟨x0,x3,rfl,h⟩;cases h;simp only [Ar.l0] at h;revert h)
  | (refine Bz _ _ ⟨_,_,rfl,by first | with_reducible exact h | exact h⟩ ⟨⟨rfl,rfl,trivial⟩,rfl⟩ ?_;omega)
  | fail
theorem Fg.ct {k:Nat} {p0:List Int} {r0:List Int} {r1:Bool}:Fg.f k p0=some (r0,r1)->Ct 197 [.f .i p0] [.f .i r0,.b r1]:=by
 refine Ax Tryz.func197 rfl rfl rfl rfl ?_;unfold Fg.f
 repeat' first
  | refine stp ?_
  | (with_reducible refine spr ?_;rintro ⟨⟩)
  | with_reducible refine And.intro ?_ ?_
  | intro h
  | refine RK.call (Ar.ct (by assumption)) rfl rfl rfl ?_
  | refine rks ?_
  | exact And.intro rfl rfl
  | fail
theorem BP.ct {k:Nat} {p0:List Int} {r0:List Int}:BP.f k p0=some r0->Ct 198 [.f .i p0] [.o .i r0]:=by
 refine Ax Tryz.func198 rfl rfl rfl rfl ?_;unfold BP.f
 repeat' first
  | refine stp ?_
  | (with_reducible refine spr ?_;rintro ⟨⟩)
  | with_reducible refine And.intro ?_ ?_
  | intro h
  | ((with_reducible refine DB (id:=6) false false (by kernel_rfl) ?_ ?_);rfl)
  | ((with_reducible refine DB (id:=8) false true (by kernel_rfl) ?_ ?_);rfl)
  | refine RK.ap rfl rfl rfl rfl rfl (by (try simp only [IN,It,IS,IT,No,Mp] at *);omega) rfl ?_
  | refine rks ?_
  | exact Exists.intro _ rfl
  | (refine BA (λn σ=>∃ x0 x3 x4,σ=[(0,.v (.f .i x0)),(3,.v (.o .i x3)),(4,.v (.i x4))]/\BP.l0 n x0 x3 x4=some r0) _ _ ⟨_,_,_,rfl,by first | with_reducible exact h | exact h⟩ ⟨⟨rfl,rfl,rfl,trivial⟩,rfl⟩ ?_;rintro (_ | _) _ _ ⟨x0,x3,x4,rfl,h⟩;cases h;simp only [BP.l0] at h;revert h)
  | (refine Bz _ _ ⟨_,_,_,rfl,by first | with_reducible exact h | exact h⟩ ⟨⟨rfl,rfl,rfl,trivial⟩,rfl⟩ ?_;omega)
  | (refine BA (λn σ=>∃ x0 x3 x4 x5,σ=[(0,.v (.f .i x0)),(3,.v (.o .i x3)),(4,.v (.i x4)),(5,.v (.i x5))]/\BP.l1 n x0 x3 x4 x5=some r0) _ _ ⟨_,_,_,_,rfl,by first | with_reducible exact h | exact h⟩ ⟨⟨rfl,rfl,rfl,rfl,trivial⟩,rfl⟩ ?_;rintro (_ | _) _ _ ⟨x0,x3,x4,x5,rfl,h⟩;cases h;simp only [BP.l1] at h;revert h)
  | (refine Bz _ _ ⟨_,_,_,_,rfl,by first | with_reducible exact h | exact h⟩ ⟨⟨rfl,rfl,rfl,rfl,trivial⟩,rfl⟩ ?_;omega)
  | fail
theorem Ea.ct {k:Nat} {p0:List Int} {r0:List Int} {r1:Bool}:Ea.f k p0=some (r0,r1)->Ct 128 [.f .i p0] [.f .i r0,.b r1]:=by
 refine Ax Tryz.func128 rfl rfl rfl rfl ?_;unfold Ea.f
 repeat' first
  | refine stp ?_
  | (with_reducible refine spr ?_;rintro ⟨⟩)
  | with_reducible refine And.intro ?_ ?_
  | intro h
  | refine RK.call (BP.ct (by assumption)) rfl rfl rfl ?_
  | refine RK.call (Fg.ct (by assumption)) rfl rfl rfl ?_
  | refine RK.fz 9 rfl ?_
  | refine rks ?_
  | exact And.intro rfl rfl
  | fail
theorem Bj.ct {k:Nat} {p0:List Int} {r0:Bool}:Bj.f k p0=some r0->Ct 199 [.f .i p0] [.b r0]:=by
 refine Ax Tryz.func199 rfl rfl rfl rfl ?_;unfold Bj.f
 repeat' first
  | refine stp ?_
  | (with_reducible refine spr ?_;rintro ⟨⟩)
  | with_reducible refine And.intro ?_ ?_
  | intro h
  | refine RK.call (Cu.ct (by assumption)) rfl rfl rfl ?_
  | refine rks ?_
  | exact (rfl:_=_)
  | (refine BA (λn σ=>∃ x0 x3,σ=[(0,.v (.f .i x0)),(3,.v (.i x3))]/\Bj.l0 n x0 x3=some r0) _ _ ⟨_,_,rfl,by first | with_reducible exact h | exact h⟩ ⟨⟨rfl,rfl,trivial⟩,rfl⟩ ?_;rintro (_ | _) _ _ ⟨x0,x3,rfl,h⟩;cases h;simp only [Bj.l0] at h;revert h)
  | (refine Bz _ _ ⟨_,_,rfl,by first | with_reducible exact h | exact h⟩ ⟨⟨rfl,rfl,trivial⟩,rfl⟩ ?_;omega)
  | fail
theorem CF.ct {k:Nat} {p0:List Int} {r0:List Int} {r1:Bool}:CF.f k p0=some (r0,r1)->Ct 129 [.f .i p0] [.o .i r0,.b r1]:=by
 refine Ax Tryz.func129 rfl rfl rfl rfl ?_;unfold CF.f
 repeat' first
  | refine stp ?_
  | (with_reducible refine spr ?_;rintro ⟨⟩)
  | with_reducible refine And.intro ?_ ?_
  | intro h
  | refine RK.call (Bj.ct (by assumption)) rfl rfl rfl ?_
  | refine rks ?_
  | exact And.intro (Exists.intro _ rfl) rfl
  | (refine BA (λn σ=>∃ x0 x4 x5,σ=[(0,.v (.f .i x0)),(4,.v (.o .i x4)),(5,.v (.i x5))]/\CF.l0 n x0 x4 x5=some (r0,r1)) _ _ ⟨_,_,_,rfl,by first | with_reducible exact h | exact h⟩ ⟨⟨rfl,rfl,rfl,trivial⟩,rfl⟩ ?_;rintro (_ | _) _ _ ⟨x0,x4,x5,rfl,h⟩;cases h;simp only [CF.l0] at h;revert h)
  | (refine Bz _ _ ⟨_,_,_,rfl,by first | with_reducible exact h | exact h⟩ ⟨⟨rfl,rfl,rfl,trivial⟩,rfl⟩ ?_;omega)
  | fail
theorem Dt.ct {k:Nat} {p0:List Int} {r0:List Int} {r1:Bool}:Dt.f k p0=some (r0,r1)->Ct 130 [.f .i p0] [.f .i r0,.b r1]:=by
 refine Ax Tryz.func130 rfl rfl rfl rfl ?_;unfold Dt.f
 repeat' first
  | refine stp ?_
  | (with_reducible refine spr ?_;rintro ⟨⟩)
  | with_reducible refine And.intro ?_ ?_
  | intro h
  | refine RK.call (Bj.ct (by assumption)) rfl rfl rfl ?_
  | refine rks ?_
  | exact And.intro rfl rfl
  | fail
theorem Bu.ct {k:Nat} {p0:List Int} {p1:ByteArray} {p2:ByteArray} {p3:Bool} {r0:List Int} {r1:Bool} {r2:Bool}:Bu.f k p0 p1 p2 p3=some (r0,r1,r2)->Ct 80 [.f .i p0,.s p1,.s p2,.b p3] [.f .i r0,.b r1,.b r2]:=by
 refine Ax Tryz.func80 rfl rfl rfl rfl ?_;unfold Bu.f
 repeat' first
  | refine stp ?_
  | (with_reducible refine spr ?_;rintro ⟨⟩)
  | with_reducible refine And.intro ?_ ?_
  | intro h
  | refine DB true true (by kernel_rfl) rfl ?_
  | refine RK.call (Ay.ct (by assumption)) rfl rfl rfl ?_
  | refine RK.call (Ea.ct (by assumption)) rfl rfl rfl ?_
  | refine RK.call (CF.ct (by assumption)) rfl rfl rfl ?_
  | refine RK.call (Dt.ct (by assumption)) rfl rfl rfl ?_
  | refine RK.ap rfl rfl rfl rfl rfl (by (try simp only [IN,It,IS,IT,No,Mp] at *);omega) rfl ?_
  | refine RK.fc rfl (Dt.ct (by assumption)) rfl rfl ?_
  | refine RK.fz 11 rfl ?_
  | refine RK.fz 70 rfl ?_
  | refine RK.fz 106 rfl ?_
  | refine rks ?_
  | exact And.intro rfl (And.intro rfl rfl)
  | fail
theorem AE.ct:∀ {k:Nat} {p0:Int} {r0:ByteArray},AE.f k p0=some r0->Ct 24 [.i p0] [.s r0]:=by
 intro k
 induction k using Nat.strongRecOn with
 | ind k IH=>
 intro p0 r0;have ih:∀ {k':Nat} {p0:Int} {r0:ByteArray},AE.f k' p0=some r0->k'<k->Ct 24 [.i p0] [.s r0]:=λh hk=>IH _ hk h;clear IH
 cases k with
 | zero=>exact spz
 | succ k=>
 refine Ax Tryz.func24 rfl rfl rfl rfl ?_;simp only [AE.f]
 repeat' first
  | refine stp ?_
  | (with_reducible refine spr ?_;rintro ⟨⟩)
  | with_reducible refine And.intro ?_ ?_
  | intro h
  | refine DB false false (by kernel_rfl) rfl ?_
  | refine RK.call (ih (by assumption) (by omega)) rfl rfl rfl ?_
  | refine rks ?_
  | exact (rfl:_=_)
  | fail
theorem Cq.ct {k:Nat} {p0:List Int} {p1:ByteArray} {r0:ByteArray}:Cq.f k p0 p1=some r0->Ct 200 [.f .i p0,.s p1] [.s r0]:=by
 refine Ax Tryz.func200 rfl rfl rfl rfl ?_;unfold Cq.f
 repeat' first
  | refine stp ?_
  | (with_reducible refine spr ?_;rintro ⟨⟩)
  | with_reducible refine And.intro ?_ ?_
  | intro h
  | refine RK.call (AE.ct (by assumption)) rfl rfl rfl ?_
  | refine rks ?_
  | exact (rfl:_=_)
  | (refine BA (λn σ=>∃ x0 x1 x5 x6,σ=[(0,.v (.f .i x0)),(1,.v (.s x1)),(5,.v (.s x5)),(6,.v (.i x6))]/\Cq.l0 n x0 x1 x5 x6=some r0) _ _ ⟨_,_,_,_,rfl,by first | with_reducible exact h | exact h⟩ ⟨⟨rfl,rfl,rfl,rfl,trivial⟩,rfl⟩ ?_;rintro (_ | _) _ _ ⟨x0,x1,x5,x6,rfl,h⟩;cases h;simp only [Cq.l0] at h;revert h)
  | (refine Bz _ _ ⟨_,_,_,_,rfl,by first | with_reducible exact h | exact h⟩ ⟨⟨rfl,rfl,rfl,rfl,trivial⟩,rfl⟩ ?_;omega)
  | fail
theorem BG.ct {k:Nat} {p0:List Int} {p1:Bool} {r0:ByteArray}:BG.f k p0 p1=some r0->Ct 131 [.f .i p0,.b p1] [.s r0]:=by
 refine Ax Tryz.func131 rfl rfl rfl rfl ?_;unfold BG.f
 repeat' first
  | refine stp ?_
  | (with_reducible refine spr ?_;rintro ⟨⟩)
  | with_reducible refine And.intro ?_ ?_
  | intro h
  | refine RK.call (Cq.ct (by assumption)) rfl rfl rfl ?_
  | refine rks ?_
  | exact (rfl:_=_)
  | fail
theorem Bq.ct {k:Nat} {p0:Int} {p1:Bool} {r0:ByteArray}:Bq.f k p0 p1=some r0->Ct 132 [.i p0,.b p1] [.s r0]:=by
 refine Ax Tryz.func132 rfl rfl rfl rfl ?_;unfold Bq.f
 repeat' first
  | refine stp ?_
  | (with_reducible refine spr ?_;rintro ⟨⟩)
  | with_reducible refine And.intro ?_ ?_
  | intro h
  | refine RK.call (BG.ct (by assumption)) rfl rfl rfl ?_
  | refine rks ?_
  | exact (rfl:_=_)
  | fail
theorem B4.ct {k:Nat} {p0:List Int} {r0:Int}:B4.f k p0=some r0->Ct 201 [.f .i p0] [.i r0]:=by
 refine Ax Tryz.func201 rfl rfl rfl rfl ?_;unfold B4.f
 repeat' first
  | refine stp ?_
  | (with_reducible refine spr ?_;rintro ⟨⟩)
  | with_reducible refine And.intro ?_ ?_
  | intro h
  | refine rks ?_
  | exact (rfl:_=_)
  | (refine BA (λn σ=>∃ x0 x3 x4,σ=[(0,.v (.f .i x0)),(3,.v (.i x3)),(4,.v (.i x4))]/\B4.l0 n x0 x3 x4=some r0) _ _ ⟨_,_,_,rfl,by first | with_reducible exact h | exact h⟩ ⟨⟨rfl,rfl,rfl,trivial⟩,rfl⟩ ?_;rintro (_ | _) _ _ ⟨x0,x3,x4,rfl,h⟩;cases h;simp only [B4.l0] at h;revert h)
  | (refine Bz _ _ ⟨_,_,_,rfl,by first | with_reducible exact h | exact h⟩ ⟨⟨rfl,rfl,rfl,trivial⟩,rfl⟩ ?_;omega)
  | fail
theorem En.ct {k:Nat} {p0:List Int} {r0:Int} {r1:Bool}:En.f k p0=some (r0,r1)->Ct 133 [.f .i p0] [.i r0,.b r1]:=by
 refine Ax Tryz.func133 rfl rfl rfl rfl ?_;unfold En.f
 repeat' first
  | refine stp ?_
  | (with_reducible refine spr ?_;rintro ⟨⟩)
  | with_reducible refine And.intro ?_ ?_
  | intro h
  | refine RK.call (Ar.ct (by assumption)) rfl rfl rfl ?_
  | refine RK.call (B4.ct (by assumption)) rfl rfl rfl ?_
  | refine rks ?_
  | exact And.intro rfl rfl
  | fail
theorem Ca.ct {p0:Int} {p1:Int} {p2:Int} {r0:Bool}:Ca.f p0 p1 p2=some r0->Ct 203 [.i p0,.i p1,.i p2] [.b r0]:=by
 refine Ax Tryz.func203 rfl rfl rfl rfl ?_;unfold Ca.f
 repeat' first
  | refine stp ?_
  | (with_reducible refine spr ?_;rintro ⟨⟩)
  | with_reducible refine And.intro ?_ ?_
  | intro h
  | refine rks ?_
  | exact (rfl:_=_)
  | fail
theorem Bf.ct {k:Nat} {p0:List Int} {r0:Int}:Bf.f k p0=some r0->Ct 202 [.f .i p0] [.i r0]:=by
 refine Ax Tryz.func202 rfl rfl rfl rfl ?_;unfold Bf.f
 repeat' first
  | refine stp ?_
  | (with_reducible refine spr ?_;rintro ⟨⟩)
  | with_reducible refine And.intro ?_ ?_
  | intro h
  | refine DB false false (by kernel_rfl) rfl ?_
  | refine RK.call (Ca.ct (by assumption)) rfl rfl rfl ?_
  | refine rks ?_
  | exact (rfl:_=_)
  | (refine BA (λn σ=>∃ x0 x3 x4,σ=[(0,.v (.f .i x0)),(3,.v (.i x3)),(4,.v (.i x4))]/\Bf.l0 n x0 x3 x4=some r0) _ _ ⟨_,_,_,rfl,by first | with_reducible exact h | exact h⟩ ⟨⟨rfl,rfl,rfl,trivial⟩,rfl⟩ ?_;rintro (_ | _) _ _ ⟨x0,x3,x4,rfl,h⟩;cases h;simp only [Bf.l0] at h;revert h)
  | (refine Bz _ _ ⟨_,_,_,rfl,by first | with_reducible exact h | exact h⟩ ⟨⟨rfl,rfl,rfl,trivial⟩,rfl⟩ ?_;omega)
  | (refine BA (λn σ=>∃ x0 x3 x4 x5,σ=[(0,.v (.f .i x0)),(3,.v (.i x3)),(4,.v (.i x4)),(5,.v (.i x5))]/\Bf.l1 n x0 x3 x4 x5=some r0) _ _ ⟨_,_,_,_,rfl,by first | with_reducible exact h | exact h⟩ ⟨⟨rfl,rfl,rfl,rfl,trivial⟩,rfl⟩ ?_;rintro (_ | _) _ _ ⟨x0,x3,x4,x5,rfl,h⟩;cases h;simp only [Bf.l1] at h;revert h)
  | (refine Bz _ _ ⟨_,_,_,_,rfl,by first | with_reducible exact h | exact h⟩ ⟨⟨rfl,rfl,rfl,rfl,trivial⟩,rfl⟩ ?_;omega)
  | (refine BA (λn σ=>∃ x0 x3 x4 x5 x6,σ=[(0,.v (.f .i x0)),(3,.v (.i x3)),(4,.v (.i x4)),(5,.v (.i x5)),(6,.v (.i x6))]/\Bf.l2 n x0 x3 x4 x5 x6=some r0) _ _ ⟨_,_,_,_,_,rfl,by first | with_reducible exact h | exact h⟩ ⟨⟨rfl,rfl,rfl,rfl,rfl,trivial⟩,rfl⟩ ?_;rintro (_ | _) _ _ ⟨x0,x3,x4,x5,x6,rfl,h⟩;cases h;simp only [Bf.l2] at h;revert h)
  | (refine Bz _ _ ⟨_,_,_,_,_,rfl,by first | with_reducible exact h | exact h⟩ ⟨⟨rfl,rfl,rfl,rfl,rfl,trivial⟩,rfl⟩ ?_;omega)
  | fail
theorem DP.ct {k:Nat} {p0:List Int} {r0:Int} {r1:Bool}:DP.f k p0=some (r0,r1)->Ct 134 [.f .i p0] [.i r0,.b r1]:=by
 refine Ax Tryz.func134 rfl rfl rfl rfl ?_;unfold DP.f
 repeat' first
  | refine stp ?_
  | (with_reducible refine spr ?_;rintro ⟨⟩)
  | with_reducible refine And.intro ?_ ?_
  | intro h
  | refine RK.call (Ar.ct (by assumption)) rfl rfl rfl ?_
  | refine RK.call (Bf.ct (by assumption)) rfl rfl rfl ?_
  | refine rks ?_
  | exact And.intro rfl rfl
  | fail
theorem Bg.ct {k:Nat} {p0:List Int} {r0:Int} {r1:Bool}:Bg.f k p0=some (r0,r1)->Ct 135 [.f .i p0] [.i r0,.b r1]:=by
 refine Ax Tryz.func135 rfl rfl rfl rfl ?_;unfold Bg.f
 repeat' first
  | refine stp ?_
  | (with_reducible refine spr ?_;rintro ⟨⟩)
  | with_reducible refine And.intro ?_ ?_
  | intro h
  | refine DB false false (by kernel_rfl) rfl ?_
  | refine RK.call (Ar.ct (by assumption)) rfl rfl rfl ?_
  | refine RK.call (Ca.ct (by assumption)) rfl rfl rfl ?_
  | refine rks ?_
  | exact And.intro rfl rfl
  | (refine BA (λn σ=>∃ x0 x4,σ=[(0,.v (.f .i x0)),(4,.v (.i x4))]/\Bg.l0 n x0 x4=some (r0,r1)) _ _ ⟨_,_,rfl,by first | with_reducible exact h | exact h⟩ ⟨⟨rfl,rfl,trivial⟩,rfl⟩ ?_;rintro (_ | _) _ _ ⟨x0,x4,rfl,h⟩;cases h;simp only [Bg.l0] at h;revert h)
  | (refine Bz _ _ ⟨_,_,rfl,by first | with_reducible exact h | exact h⟩ ⟨⟨rfl,rfl,trivial⟩,rfl⟩ ?_;omega)
  | fail
theorem DO.ct {k:Nat} {p0:List Int} {r0:Bool}:DO.f k p0=some r0->Ct 137 [.f .i p0] [.b r0]:=by
 refine Ax Tryz.func137 rfl rfl rfl rfl ?_;unfold DO.f
 repeat' first
  | refine stp ?_
  | (with_reducible refine spr ?_;rintro ⟨⟩)
  | with_reducible refine And.intro ?_ ?_
  | intro h
  | refine RK.call (Ar.ct (by assumption)) rfl rfl rfl ?_
  | refine RK.call (Bf.ct (by assumption)) rfl rfl rfl ?_
  | refine rks ?_
  | exact (rfl:_=_)
  | fail
theorem CT.ct {p0:ByteArray} {p1:Bool} {r0:ByteArray}:CT.f p0 p1=some r0->Ct 138 [.s p0,.b p1] [.s r0]:=by
 refine Ax Tryz.func138 rfl rfl rfl rfl ?_;unfold CT.f
 repeat' first
  | refine stp ?_
  | (with_reducible refine spr ?_;rintro ⟨⟩)
  | with_reducible refine And.intro ?_ ?_
  | intro h
  | refine rks ?_
  | exact (rfl:_=_)
  | fail
theorem Ec.ct {k:Nat} {p0:List Int} {r0:Bool}:Ec.f k p0=some r0->Ct 204 [.f .i p0] [.b r0]:=by
 refine Ax Tryz.func204 rfl rfl rfl rfl ?_;unfold Ec.f
 repeat' first
  | refine stp ?_
  | (with_reducible refine spr ?_;rintro ⟨⟩)
  | with_reducible refine And.intro ?_ ?_
  | intro h
  | refine DB false false (by kernel_rfl) rfl ?_
  | refine RK.call (Ar.ct (by assumption)) rfl rfl rfl ?_
  | refine RK.call (Ca.ct (by assumption)) rfl rfl rfl ?_
  | refine rks ?_
  | exact (rfl:_=_)
  | fail
theorem EM.ct {k:Nat} {p0:List Int} {r0:ByteArray} {r1:Bool}:EM.f k p0=some (r0,r1)->Ct 139 [.f .i p0] [.s r0,.b r1]:=by
 refine Ax Tryz.func139 rfl rfl rfl rfl ?_;unfold EM.f
 repeat' first
  | refine stp ?_
  | (with_reducible refine spr ?_;rintro ⟨⟩)
  | with_reducible refine And.intro ?_ ?_
  | intro h
  | refine DB false false (by kernel_rfl) rfl ?_
  | refine RK.call (Ec.ct (by assumption)) rfl rfl rfl ?_
  | refine rks ?_
  | exact And.intro rfl rfl
  | fail
theorem Ex.ct {p0:Int} {p1:Int} {p2:Int} {r0:Int}:Ex.f p0 p1 p2=some r0->Ct 205 [.i p0,.i p1,.i p2] [.i r0]:=by
 refine Ax Tryz.func205 rfl rfl rfl rfl ?_;unfold Ex.f
 repeat' first
  | refine stp ?_
  | (with_reducible refine spr ?_;rintro ⟨⟩)
  | with_reducible refine And.intro ?_ ?_
  | intro h
  | refine rks ?_
  | exact (rfl:_=_)
  | fail
theorem EK.ct {k:Nat} {p0:List Int} {r0:Int} {r1:Bool}:EK.f k p0=some (r0,r1)->Ct 140 [.f .i p0] [.i r0,.b r1]:=by
 refine Ax Tryz.func140 rfl rfl rfl rfl ?_;unfold EK.f
 repeat' first
  | refine stp ?_
  | (with_reducible refine spr ?_;rintro ⟨⟩)
  | with_reducible refine And.intro ?_ ?_
  | intro h
  | refine DB false false (by kernel_rfl) rfl ?_
  | refine RK.call (Ec.ct (by assumption)) rfl rfl rfl ?_
  | refine RK.call (Ex.ct (by assumption)) rfl rfl rfl ?_
  | refine rks ?_
  | exact And.intro rfl rfl
  | fail
theorem EL.ct {k:Nat} {p0:List Int} {r0:List Int} {r1:Bool}:EL.f k p0=some (r0,r1)->Ct 141 [.f .i p0] [.o .i r0,.b r1]:=by
 refine Ax Tryz.func141 rfl rfl rfl rfl ?_;unfold EL.f
 repeat' first
  | refine stp ?_
  | (with_reducible refine spr ?_;rintro ⟨⟩)
  | with_reducible refine And.intro ?_ ?_
  | intro h
  | refine DB false false (by kernel_rfl) rfl ?_
  | refine RK.call (Ec.ct (by assumption)) rfl rfl rfl ?_
  | refine RK.call (B4.ct (by assumption)) rfl rfl rfl ?_
  | refine rks ?_
  | exact And.intro (Exists.intro _ rfl) rfl
  | fail
theorem Dw.ct {k:Nat} {p0:List Int} {r0:Int}:Dw.f k p0=some r0->Ct 206 [.f .i p0] [.i r0]:=by
 refine Ax Tryz.func206 rfl rfl rfl rfl ?_;unfold Dw.f
 repeat' first
  | refine stp ?_
  | (with_reducible refine spr ?_;rintro ⟨⟩)
  | with_reducible refine And.intro ?_ ?_
  | intro h
  | refine DB false false (by kernel_rfl) rfl ?_
  | refine RK.call (B4.ct (by assumption)) rfl rfl rfl ?_
  | refine rks ?_
  | exact (rfl:_=_)
  | fail
theorem EJ.ct {k:Nat} {p0:List Int} {r0:Int} {r1:Bool}:EJ.f k p0=some (r0,r1)->Ct 142 [.f .i p0] [.i r0,.b r1]:=by
 refine Ax Tryz.func142 rfl rfl rfl rfl ?_;unfold EJ.f
 repeat' first
  | refine stp ?_
  | (with_reducible refine spr ?_;rintro ⟨⟩)
  | with_reducible refine And.intro ?_ ?_
  | intro h
  | refine RK.call (Ar.ct (by assumption)) rfl rfl rfl ?_
  | refine RK.call (Dw.ct (by assumption)) rfl rfl rfl ?_
  | refine rks ?_
  | exact And.intro rfl rfl
  | fail
theorem CW.ct {k:Nat} {p0:List Int} {r0:Bool}:CW.f k p0=some r0->Ct 212 [.f .i p0] [.b r0]:=by
 refine Ax Tryz.func212 rfl rfl rfl rfl ?_;unfold CW.f
 repeat' first
  | refine stp ?_
  | (with_reducible refine spr ?_;rintro ⟨⟩)
  | with_reducible refine And.intro ?_ ?_
  | intro h
  | refine RK.call (Dw.ct (by assumption)) rfl rfl rfl ?_
  | refine rks ?_
  | exact (rfl:_=_)
  | fail
theorem CB.ct {k:Nat} {p0:List Int} {r0:Int}:CB.f k p0=some r0->Ct 207 [.f .i p0] [.i r0]:=by
 refine Ax Tryz.func207 rfl rfl rfl rfl ?_;unfold CB.f
 repeat' first
  | refine stp ?_
  | (with_reducible refine spr ?_;rintro ⟨⟩)
  | with_reducible refine And.intro ?_ ?_
  | intro h
  | refine RK.call (CW.ct (by assumption)) rfl rfl rfl ?_
  | refine rks ?_
  | exact (rfl:_=_)
  | (refine BA (λn σ=>∃ x0 x3,σ=[(0,.v (.f .i x0)),(3,.v (.i x3))]/\CB.l0 n x0 x3=some r0) _ _ ⟨_,_,rfl,by first | with_reducible exact h | exact h⟩ ⟨⟨rfl,rfl,trivial⟩,rfl⟩ ?_;rintro (_ | _) _ _ ⟨x0,x3,rfl,h⟩;cases h;simp only [CB.l0] at h;revert h)
  | (refine Bz _ _ ⟨_,_,rfl,by first | with_reducible exact h | exact h⟩ ⟨⟨rfl,rfl,trivial⟩,rfl⟩ ?_;omega)
  | fail
theorem Em.ct {k:Nat} {p0:List Int} {r0:Int} {r1:Bool}:Em.f k p0=some (r0,r1)->Ct 143 [.f .i p0] [.i r0,.b r1]:=by
 refine Ax Tryz.func143 rfl rfl rfl rfl ?_;unfold Em.f
 repeat' first
  | refine stp ?_
  | (with_reducible refine spr ?_;rintro ⟨⟩)
  | with_reducible refine And.intro ?_ ?_
  | intro h
  | refine RK.call (Ar.ct (by assumption)) rfl rfl rfl ?_
  | refine RK.call (CB.ct (by assumption)) rfl rfl rfl ?_
  | refine rks ?_
  | exact And.intro rfl rfl
  | fail
theorem D9.ct {k:Nat} {p0:List Int} {r0:List Int} {r1:Bool}:D9.f k p0=some (r0,r1)->Ct 144 [.f .i p0] [.o .i r0,.b r1]:=by
 refine Ax Tryz.func144 rfl rfl rfl rfl ?_;unfold D9.f
 repeat' first
  | refine stp ?_
  | (with_reducible refine spr ?_;rintro ⟨⟩)
  | with_reducible refine And.intro ?_ ?_
  | intro h
  | refine RK.call (Ar.ct (by assumption)) rfl rfl rfl ?_
  | refine RK.call (CB.ct (by assumption)) rfl rfl rfl ?_
  | refine rks ?_
  | exact And.intro (Exists.intro _ rfl) rfl
  | fail
theorem EI.ct {k:Nat} {p0:List Int} {r0:Int} {r1:Bool}:EI.f k p0=some (r0,r1)->Ct 145 [.f .i p0] [.i r0,.b r1]:=by
 refine Ax Tryz.func145 rfl rfl rfl rfl ?_;unfold EI.f
 repeat' first
  | refine stp ?_
  | (with_reducible refine spr ?_;rintro ⟨⟩)
  | with_reducible refine And.intro ?_ ?_
  | intro h
  | refine RK.call (Ar.ct (by assumption)) rfl rfl rfl ?_
  | refine RK.call (Dw.ct (by assumption)) rfl rfl rfl ?_
  | refine rks ?_
  | exact And.intro rfl rfl
  | fail
theorem Dx.ct {k:Nat} {p0:List Int} {r0:Int} {r1:Int}:Dx.f k p0=some (r0,r1)->Ct 208 [.f .i p0] [.i r0,.i r1]:=by
 refine Ax Tryz.func208 rfl rfl rfl rfl ?_;unfold Dx.f
 repeat' first
  | refine stp ?_
  | (with_reducible refine spr ?_;rintro ⟨⟩)
  | with_reducible refine And.intro ?_ ?_
  | intro h
  | refine RK.call (B4.ct (by assumption)) rfl rfl rfl ?_
  | refine rks ?_
  | exact And.intro rfl rfl
  | fail
theorem DT.ct {k:Nat} {p0:List Int} {r0:Int} {r1:Int} {r2:Bool}:DT.f k p0=some (r0,r1,r2)->Ct 146 [.f .i p0] [.i r0,.i r1,.b r2]:=by
 refine Ax Tryz.func146 rfl rfl rfl rfl ?_;unfold DT.f
 repeat' first
  | refine stp ?_
  | (with_reducible refine spr ?_;rintro ⟨⟩)
  | with_reducible refine And.intro ?_ ?_
  | intro h
  | refine RK.call (Ar.ct (by assumption)) rfl rfl rfl ?_
  | refine RK.call (Dx.ct (by assumption)) rfl rfl rfl ?_
  | refine rks ?_
  | exact And.intro rfl (And.intro rfl rfl)
  | fail
theorem D8.ct {k:Nat} {p0:List Int} {r0:Int} {r1:Bool}:D8.f k p0=some (r0,r1)->Ct 147 [.f .i p0] [.i r0,.b r1]:=by
 refine Ax Tryz.func147 rfl rfl rfl rfl ?_;unfold D8.f
 repeat' first
  | refine stp ?_
  | (with_reducible refine spr ?_;rintro ⟨⟩)
  | with_reducible refine And.intro ?_ ?_
  | intro h
  | refine RK.call (Ar.ct (by assumption)) rfl rfl rfl ?_
  | refine RK.call (Dx.ct (by assumption)) rfl rfl rfl ?_
  | refine rks ?_
  | exact And.intro rfl rfl
  | fail
theorem Au.ct:∀ {k:Nat} {p0:List Int} {p1:Int} {p2:Int} {r0:Int},Au.f k p0 p1 p2=some r0->Ct 209 [.f .i p0,.i p1,.i p2] [.i r0]:=by
 intro k
 induction k using Nat.strongRecOn with
 | ind k IH=>
 intro p0 p1 p2 r0;have ih:∀ {k':Nat} {p0:List Int} {p1:Int} {p2:Int} {r0:Int},Au.f k' p0 p1 p2=some r0->k'<k->Ct 209 [.f .i p0,.i p1,.i p2] [.i r0]:=λh hk=>IH _ hk h;clear IH
 cases k with
 | zero=>exact spz
 | succ k=>
 refine Ax Tryz.func209 rfl rfl rfl rfl ?_;simp only [Au.f]
 repeat' first
  | refine stp ?_
  | (with_reducible refine spr ?_;rintro ⟨⟩)
  | with_reducible refine And.intro ?_ ?_
  | intro h
  | refine DB false false (by kernel_rfl) rfl ?_
  | refine RK.call (ih (by assumption) (by omega)) rfl rfl rfl ?_
  | refine RK.call (Ca.ct (by assumption)) rfl rfl rfl ?_
  | refine rks ?_
  | exact (rfl:_=_)
  | (refine BA (λn σ=>∃ x0 x1 x2 x7,σ=[(0,.v (.f .i x0)),(1,.v (.i x1)),(2,.v (.i x2)),(7,.v (.i x7))]/\Au.l0 n x0 x1 x2 x7=some r0) _ _ ⟨_,_,_,_,rfl,by first | with_reducible exact h | exact h⟩ ⟨⟨rfl,rfl,rfl,rfl,trivial⟩,rfl⟩ ?_;rintro (_ | _) _ _ ⟨x0,x1,x2,x7,rfl,h⟩;cases h;simp only [Au.l0] at h;revert h)
  | (refine Bz _ _ ⟨_,_,_,_,rfl,by first | with_reducible exact h | exact h⟩ ⟨⟨rfl,rfl,rfl,rfl,trivial⟩,rfl⟩ ?_;omega)
  | (refine BA (λn σ=>∃ x0 x1 x2 x7 x8 x9,σ=[(0,.v (.f .i x0)),(1,.v (.i x1)),(2,.v (.i x2)),(7,.v (.i x7)),(8,.v (.i x8)),(9,.v (.i x9))]/\Au.l1 n x0 x1 x2 x7 x8 x9=some r0) _ _ ⟨_,_,_,_,_,_,rfl,by first | with_reducible exact h | exact h⟩ ⟨⟨rfl,rfl,rfl,rfl,rfl,rfl,trivial⟩,rfl⟩ ?_;rintro (_ | _) _ _ ⟨x0,x1,x2,x7,x8,x9,rfl,h⟩;cases h;simp only [Au.l1] at h;revert h)
  | (refine Bz _ _ ⟨_,_,_,_,_,_,rfl,by first | with_reducible exact h | exact h⟩ ⟨⟨rfl,rfl,rfl,rfl,rfl,rfl,trivial⟩,rfl⟩ ?_;omega)
  | (refine BA (λn σ=>∃ x0 x1 x2 x7 x8 x9 x10,σ=[(0,.v (.f .i x0)),(1,.v (.i x1)),(2,.v (.i x2)),(7,.v (.i x7)),(8,.v (.i x8)),(9,.v (.i x9)),(10,.v (.i x10))]/\Au.l2 n x0 x1 x2 x7 x8 x9 x10=some r0) _ _ ⟨_,_,_,_,_,_,_,rfl,by first | with_reducible exact h | exact h⟩ ⟨⟨rfl,rfl,rfl,rfl,rfl,rfl,rfl,trivial⟩,rfl⟩ ?_;rintro (_ | _) _ _ ⟨x0,x1,x2,x7,x8,x9,x10,rfl,h⟩;cases h;simp only [Au.l2] at h;revert h)
  | (refine Bz _ _ ⟨_,_,_,_,_,_,_,rfl,by first | with_reducible exact h | exact h⟩ ⟨⟨rfl,rfl,rfl,rfl,rfl,rfl,rfl,trivial⟩,rfl⟩ ?_;omega)
  | fail
theorem D0.ct {k:Nat} {p0:List Int} {r0:Int} {r1:Bool}:D0.f k p0=some (r0,r1)->Ct 148 [.f .i p0] [.i r0,.b r1]:=by
 refine Ax Tryz.func148 rfl rfl rfl rfl ?_;unfold D0.f
 repeat' first
  | refine stp ?_
  | (with_reducible refine spr ?_;rintro ⟨⟩)
  | with_reducible refine And.intro ?_ ?_
  | intro h
  | refine RK.call (Ar.ct (by assumption)) rfl rfl rfl ?_
  | refine RK.call (Au.ct (by assumption)) rfl rfl rfl ?_
  | refine rks ?_
  | exact And.intro rfl rfl
  | fail
theorem Cc.ct {k:Nat} {p0:List Int} {r0:Int}:Cc.f k p0=some r0->Ct 210 [.f .i p0] [.i r0]:=by
 refine Ax Tryz.func210 rfl rfl rfl rfl ?_;unfold Cc.f
 repeat' first
  | refine stp ?_
  | (with_reducible refine spr ?_;rintro ⟨⟩)
  | with_reducible refine And.intro ?_ ?_
  | intro h
  | refine rks ?_
  | exact (rfl:_=_)
  | (refine BA (λn σ=>∃ x0 x3 x4,σ=[(0,.v (.f .i x0)),(3,.v (.i x3)),(4,.v (.i x4))]/\Cc.l0 n x0 x3 x4=some r0) _ _ ⟨_,_,_,rfl,by first | with_reducible exact h | exact h⟩ ⟨⟨rfl,rfl,rfl,trivial⟩,rfl⟩ ?_;rintro (_ | _) _ _ ⟨x0,x3,x4,rfl,h⟩;cases h;simp only [Cc.l0] at h;revert h)
  | (refine Bz _ _ ⟨_,_,_,rfl,by first | with_reducible exact h | exact h⟩ ⟨⟨rfl,rfl,rfl,trivial⟩,rfl⟩ ?_;omega)
  | fail
theorem Ds.ct {k:Nat} {p0:List Int} {p1:Int} {r0:List Int}:Ds.f k p0 p1=some r0->Ct 283 [.f .i p0,.i p1] [.o .i r0]:=by
 refine Ax Tryz.func283 rfl rfl rfl rfl ?_;unfold Ds.f
 repeat' first
  | refine stp ?_
  | (with_reducible refine spr ?_;rintro ⟨⟩)
  | with_reducible refine And.intro ?_ ?_
  | intro h
  | refine rks ?_
  | exact Exists.intro _ rfl
  | (refine BA (λn σ=>∃ x0 x1 x5 x6,σ=[(0,.v (.f .i x0)),(1,.v (.i x1)),(5,.v (.o .i x5)),(6,.v (.i x6))]/\Ds.l0 n x0 x1 x5 x6=some r0) _ _ ⟨_,_,_,_,rfl,by first | with_reducible exact h | exact h⟩ ⟨⟨rfl,rfl,rfl,rfl,trivial⟩,rfl⟩ ?_;rintro (_ | _) _ _ ⟨x0,x1,x5,x6,rfl,h⟩;cases h;simp only [Ds.l0] at h;revert h)
  | (refine Bz _ _ ⟨_,_,_,_,rfl,by first | with_reducible exact h | exact h⟩ ⟨⟨rfl,rfl,rfl,rfl,trivial⟩,rfl⟩ ?_;omega)
  | fail
theorem AR.ct:∀ {k:Nat} {p0:List Int} {p1:List Int} {p2:Int} {r0:List (List Int)},AR.f k p0 p1 p2=some r0->Ct 262 [.f .i p0,.f .i p1,.i p2] [.o .l r0]:=by
 intro k
 induction k using Nat.strongRecOn with
 | ind k IH=>
 intro p0 p1 p2 r0;have ih:∀ {k':Nat} {p0:List Int} {p1:List Int} {p2:Int} {r0:List (List Int)},AR.f k' p0 p1 p2=some r0->k'<k->Ct 262 [.f .i p0,.f .i p1,.i p2] [.o .l r0]:=λh hk=>IH _ hk h;clear IH
 cases k with
 | zero=>exact spz
 | succ k=>
 refine Ax Tryz.func262 rfl rfl rfl rfl ?_;simp only [AR.f]
 repeat' first
  | refine stp ?_
  | (with_reducible refine spr ?_;rintro ⟨⟩)
  | with_reducible refine And.intro ?_ ?_
  | intro h
  | refine DB false false (by kernel_rfl) rfl ?_
  | refine RK.call (ih (by assumption) (by omega)) rfl rfl rfl ?_
  | refine RK.call (Ds.ct (by assumption)) rfl rfl rfl ?_
  | refine RK.call (Ca.ct (by assumption)) rfl rfl rfl ?_
  | refine RK.fz 38 rfl ?_
  | refine RK.fz 84 rfl ?_
  | refine rks ?_
  | exact Exists.intro _ rfl
  | (refine BA (λn σ=>∃ x1 x2 x8,σ=[(1,.v (.f .i x1)),(2,.v (.i x2)),(8,.v (.i x8))]/\AR.l0 n x1 x2 x8=some r0) _ _ ⟨_,_,_,rfl,by first | with_reducible exact h | exact h⟩ ⟨⟨rfl,rfl,rfl,trivial⟩,rfl⟩ ?_;rintro (_ | _) _ _ ⟨x1,x2,x8,rfl,h⟩;cases h;simp only [AR.l0] at h;revert h)
  | (refine Bz _ _ ⟨_,_,_,rfl,by first | with_reducible exact h | exact h⟩ ⟨⟨rfl,rfl,rfl,trivial⟩,rfl⟩ ?_;omega)
  | (refine BA (λn σ=>∃ x0 x1 x2 x7 x9 x10,σ=[(0,.v (.f .i x0)),(1,.v (.f .i x1)),(2,.v (.i x2)),(7,.v (.i x7)),(9,.v (.o .l x9)),(10,.v (.i x10))]/\AR.l1 n x0 x1 x2 x7 x9 x10=some r0) _ _ ⟨_,_,_,_,_,_,rfl,by first | with_reducible exact h | exact h⟩ ⟨⟨rfl,rfl,rfl,rfl,rfl,rfl,trivial⟩,rfl⟩ ?_;rintro (_ | _) _ _ ⟨x0,x1,x2,x7,x9,x10,rfl,h⟩;cases h;simp only [AR.l1] at h;revert h)
  | (refine Bz _ _ ⟨_,_,_,_,_,_,rfl,by first | with_reducible exact h | exact h⟩ ⟨⟨rfl,rfl,rfl,rfl,rfl,rfl,trivial⟩,rfl⟩ ?_;omega)
  | fail
theorem CJ.ct {k:Nat} {p0:List Int} {r0:List Int}:CJ.f k p0=some r0->Ct 211 [.f .i p0] [.f .i r0]:=by
 refine Ax Tryz.func211 rfl rfl rfl rfl ?_;unfold CJ.f
 repeat' first
  | refine stp ?_
  | (with_reducible refine spr ?_;rintro ⟨⟩)
  | with_reducible refine And.intro ?_ ?_
  | intro h
  | refine RK.call (AR.ct (by assumption)) rfl rfl rfl ?_
  | refine RK.call (Cc.ct (by assumption)) rfl rfl rfl ?_
  | refine RK.fz 7 rfl ?_
  | refine rks ?_
  | exact (rfl:_=_)
  | (refine BA (λn σ=>∃ x3 x4 x5,σ=[(3,.v (.o .l x3)),(4,.v (.f .i x4)),(5,.v (.i x5))]/\CJ.l0 n x3 x4 x5=some r0) _ _ ⟨_,_,_,rfl,by first | with_reducible exact h | exact h⟩ ⟨⟨rfl,rfl,rfl,trivial⟩,rfl⟩ ?_;rintro (_ | _) _ _ ⟨x3,x4,x5,rfl,h⟩;cases h;simp only [CJ.l0] at h;revert h)
  | (refine Bz _ _ ⟨_,_,_,rfl,by first | with_reducible exact h | exact h⟩ ⟨⟨rfl,rfl,rfl,trivial⟩,rfl⟩ ?_;omega)
  | fail
theorem DH.ct {k:Nat} {p0:List Int} {r0:Int} {r1:Bool}:DH.f k p0=some (r0,r1)->Ct 149 [.f .i p0] [.i r0,.b r1]:=by
 refine Ax Tryz.func149 rfl rfl rfl rfl ?_;unfold DH.f
 repeat' first
  | refine stp ?_
  | (with_reducible refine spr ?_;rintro ⟨⟩)
  | with_reducible refine And.intro ?_ ?_
  | intro h
  | refine RK.call (Ar.ct (by assumption)) rfl rfl rfl ?_
  | refine RK.call (CJ.ct (by assumption)) rfl rfl rfl ?_
  | refine RK.call (Cc.ct (by assumption)) rfl rfl rfl ?_
  | refine rks ?_
  | exact And.intro rfl rfl
  | fail
theorem Bs.ct {k:Nat} {p0:List Int} {r0:Int} {r1:Bool}:Bs.f k p0=some (r0,r1)->Ct 150 [.f .i p0] [.i r0,.b r1]:=by
 refine Ax Tryz.func150 rfl rfl rfl rfl ?_;unfold Bs.f
 repeat' first
  | refine stp ?_
  | (with_reducible refine spr ?_;rintro ⟨⟩)
  | with_reducible refine And.intro ?_ ?_
  | intro h
  | refine RK.call (Ar.ct (by assumption)) rfl rfl rfl ?_
  | refine RK.call (B4.ct (by assumption)) rfl rfl rfl ?_
  | refine rks ?_
  | exact And.intro rfl rfl
  | (refine BA (λn σ=>∃ x0 x4 x5,σ=[(0,.v (.f .i x0)),(4,.v (.i x4)),(5,.v (.i x5))]/\Bs.l0 n x0 x4 x5=some (r0,r1)) _ _ ⟨_,_,_,rfl,by first | with_reducible exact h | exact h⟩ ⟨⟨rfl,rfl,rfl,trivial⟩,rfl⟩ ?_;rintro (_ | _) _ _ ⟨x0,x4,x5,rfl,h⟩;cases h;simp only [Bs.l0] at h;revert h)
  | (refine Bz _ _ ⟨_,_,_,rfl,by first | with_reducible exact h | exact h⟩ ⟨⟨rfl,rfl,rfl,trivial⟩,rfl⟩ ?_;omega)
  | (refine BA (λn σ=>∃ x0 x4 x5 x6 x7,σ=[(0,.v (.f .i x0)),(4,.v (.i x4)),(5,.v (.i x5)),(6,.v (.i x6)),(7,.v (.i x7))]/\Bs.l1 n x0 x4 x5 x6 x7=some (r0,r1)) _ _ ⟨_,_,_,_,_,rfl,by first | with_reducible exact h | exact h⟩ ⟨⟨rfl,rfl,rfl,rfl,rfl,trivial⟩,rfl⟩ ?_;rintro (_ | _) _ _ ⟨x0,x4,x5,x6,x7,rfl,h⟩;cases h;simp only [Bs.l1] at h;revert h)
  | (refine Bz _ _ ⟨_,_,_,_,_,rfl,by first | with_reducible exact h | exact h⟩ ⟨⟨rfl,rfl,rfl,rfl,rfl,trivial⟩,rfl⟩ ?_;omega)
  | fail
theorem Cl.ct {k:Nat} {p0:List Int} {r0:ByteArray} {r1:Bool}:Cl.f k p0=some (r0,r1)->Ct 151 [.f .i p0] [.s r0,.b r1]:=by
 refine Ax Tryz.func151 rfl rfl rfl rfl ?_;unfold Cl.f
 repeat' first
  | refine stp ?_
  | (with_reducible refine spr ?_;rintro ⟨⟩)
  | (unfold Cl.j0;split;exact spz)
  | with_reducible refine And.intro ?_ ?_
  | intro h
  | refine RK.call (Ar.ct (by assumption)) rfl rfl rfl ?_
  | refine RK.call (CW.ct (by assumption)) rfl rfl rfl ?_
  | refine RK.call (Dw.ct (by assumption)) rfl rfl rfl ?_
  | refine RK.call (AE.ct (by assumption)) rfl rfl rfl ?_
  | refine rks ?_
  | exact And.intro rfl rfl
  | fail
theorem CA.ct {k:Nat} {p0:List Int} {r0:ByteArray}:CA.f k p0=some r0->Ct 213 [.f .i p0] [.s r0]:=by
 refine Ax Tryz.func213 rfl rfl rfl rfl ?_;unfold CA.f
 repeat' first
  | refine stp ?_
  | (with_reducible refine spr ?_;rintro ⟨⟩)
  | with_reducible refine And.intro ?_ ?_
  | intro h
  | refine RK.call (AE.ct (by assumption)) rfl rfl rfl ?_
  | refine rks ?_
  | exact (rfl:_=_)
  | (refine BA (λn σ=>∃ x0 x3 x4,σ=[(0,.v (.f .i x0)),(3,.v (.s x3)),(4,.v (.i x4))]/\CA.l0 n x0 x3 x4=some r0) _ _ ⟨_,_,_,rfl,by first | with_reducible exact h | exact h⟩ ⟨⟨rfl,rfl,rfl,trivial⟩,rfl⟩ ?_;rintro (_ | _) _ _ ⟨x0,x3,x4,rfl,h⟩;cases h;simp only [CA.l0] at h;revert h)
  | (refine Bz _ _ ⟨_,_,_,rfl,by first | with_reducible exact h | exact h⟩ ⟨⟨rfl,rfl,rfl,trivial⟩,rfl⟩ ?_;omega)
  | fail
theorem Df.ct {k:Nat} {p0:List Int} {r0:ByteArray} {r1:Bool}:Df.f k p0=some (r0,r1)->Ct 152 [.f .i p0] [.s r0,.b r1]:=by
 refine Ax Tryz.func152 rfl rfl rfl rfl ?_;unfold Df.f
 repeat' first
  | refine stp ?_
  | (with_reducible refine spr ?_;rintro ⟨⟩)
  | with_reducible refine And.intro ?_ ?_
  | intro h
  | refine RK.call (Ar.ct (by assumption)) rfl rfl rfl ?_
  | refine RK.call (CJ.ct (by assumption)) rfl rfl rfl ?_
  | refine RK.call (CA.ct (by assumption)) rfl rfl rfl ?_
  | refine rks ?_
  | exact And.intro rfl rfl
  | fail
theorem Cs.ct {k:Nat} {p0:List Int} {p1:Int} {r0:Int} {r1:Int} {r2:Int}:Cs.f k p0 p1=some (r0,r1,r2)->Ct 264 [.f .i p0,.i p1] [.i r0,.i r1,.i r2]:=by
 refine Ax Tryz.func264 rfl rfl rfl rfl ?_;unfold Cs.f
 repeat' first
  | refine stp ?_
  | (with_reducible refine spr ?_;rintro ⟨⟩)
  | with_reducible refine And.intro ?_ ?_
  | intro h
  | refine rks ?_
  | exact And.intro rfl (And.intro rfl rfl)
  | (refine BA (λn σ=>∃ x0 x1 x7 x8 x9 x10,σ=[(0,.v (.f .i x0)),(1,.v (.i x1)),(7,.v (.i x7)),(8,.v (.i x8)),(9,.v (.i x9)),(10,.v (.i x10))]/\Cs.l0 n x0 x1 x7 x8 x9 x10=some (r0,r1,r2)) _ _ ⟨_,_,_,_,_,_,rfl,by first | with_reducible exact h | exact h⟩ ⟨⟨rfl,rfl,rfl,rfl,rfl,rfl,trivial⟩,rfl⟩ ?_;rintro (_ | _) _ _ ⟨x0,x1,x7,x8,x9,x10,rfl,h⟩;cases h;simp only [Cs.l0] at h;revert h)
  | (refine Bz _ _ ⟨_,_,_,_,_,_,rfl,by first | with_reducible exact h | exact h⟩ ⟨⟨rfl,rfl,rfl,rfl,rfl,rfl,trivial⟩,rfl⟩ ?_;omega)
  | fail
theorem Cn.ct {k:Nat} {p0:List Int} {r0:List Bool}:Cn.f k p0=some r0->Ct 263 [.f .i p0] [.o .b r0]:=by
 refine Ax Tryz.func263 rfl rfl rfl rfl ?_;unfold Cn.f
 repeat' first
  | refine stp ?_
  | (with_reducible refine spr ?_;rintro ⟨⟩)
  | with_reducible refine And.intro ?_ ?_
  | intro h
  | refine RK.call (B4.ct (by assumption)) rfl rfl rfl ?_
  | refine RK.call (Cs.ct (by assumption)) rfl rfl rfl ?_
  | refine rks ?_
  | exact Exists.intro _ rfl
  | (refine BA (λn σ=>∃ x0 x3 x4,σ=[(0,.v (.f .i x0)),(3,.v (.o .b x3)),(4,.v (.i x4))]/\Cn.l0 n x0 x3 x4=some r0) _ _ ⟨_,_,_,rfl,by first | with_reducible exact h | exact h⟩ ⟨⟨rfl,rfl,rfl,trivial⟩,rfl⟩ ?_;rintro (_ | _) _ _ ⟨x0,x3,x4,rfl,h⟩;cases h;simp only [Cn.l0] at h;revert h)
  | (refine Bz _ _ ⟨_,_,_,rfl,by first | with_reducible exact h | exact h⟩ ⟨⟨rfl,rfl,rfl,trivial⟩,rfl⟩ ?_;omega)
  | fail
theorem BX.ct {k:Nat} {p0:List Int} {r0:List Int} {r1:Bool}:BX.f k p0=some (r0,r1)->Ct 214 [.f .i p0] [.o .i r0,.b r1]:=by
 refine Ax Tryz.func214 rfl rfl rfl rfl ?_;unfold BX.f
 repeat' first
  | refine stp ?_
  | (with_reducible refine spr ?_;rintro ⟨⟩)
  | with_reducible refine And.intro ?_ ?_
  | intro h
  | refine RK.call (Bj.ct (by assumption)) rfl rfl rfl ?_
  | refine RK.call (Cn.ct (by assumption)) rfl rfl rfl ?_
  | refine rks ?_
  | exact And.intro (Exists.intro _ rfl) rfl
  | (refine BA (λn σ=>∃ x4 x5 x6,σ=[(4,.v (.o .i x4)),(5,.v (.o .b x5)),(6,.v (.i x6))]/\BX.l0 n x4 x5 x6=some (r0,r1)) _ _ ⟨_,_,_,rfl,by first | with_reducible exact h | exact h⟩ ⟨⟨rfl,rfl,rfl,trivial⟩,rfl⟩ ?_;rintro (_ | _) _ _ ⟨x4,x5,x6,rfl,h⟩;cases h;simp only [BX.l0] at h;revert h)
  | (refine Bz _ _ ⟨_,_,_,rfl,by first | with_reducible exact h | exact h⟩ ⟨⟨rfl,rfl,rfl,trivial⟩,rfl⟩ ?_;omega)
  | fail
theorem Ek.ct {k:Nat} {p0:List Int} {r0:Int} {r1:Bool}:Ek.f k p0=some (r0,r1)->Ct 215 [.f .i p0] [.i r0,.b r1]:=by
 refine Ax Tryz.func215 rfl rfl rfl rfl ?_;unfold Ek.f
 repeat' first
  | refine stp ?_
  | (with_reducible refine spr ?_;rintro ⟨⟩)
  | with_reducible refine And.intro ?_ ?_
  | intro h
  | refine RK.call (BX.ct (by assumption)) rfl rfl rfl ?_
  | refine rks ?_
  | exact And.intro rfl rfl
  | fail
theorem Ci.ct {k:Nat} {p0:List Int} {r0:Int} {r1:Bool}:Ci.f k p0=some (r0,r1)->Ct 216 [.f .i p0] [.i r0,.b r1]:=by
 refine Ax Tryz.func216 rfl rfl rfl rfl ?_;unfold Ci.f
 repeat' first
  | refine stp ?_
  | (with_reducible refine spr ?_;rintro ⟨⟩)
  | with_reducible refine And.intro ?_ ?_
  | intro h
  | refine RK.call (Bj.ct (by assumption)) rfl rfl rfl ?_
  | refine RK.call (Cs.ct (by assumption)) rfl rfl rfl ?_
  | refine rks ?_
  | exact And.intro rfl rfl
  | (refine BA (λn σ=>∃ x0 x4 x5,σ=[(0,.v (.f .i x0)),(4,.v (.i x4)),(5,.v (.i x5))]/\Ci.l0 n x0 x4 x5=some (r0,r1)) _ _ ⟨_,_,_,rfl,by first | with_reducible exact h | exact h⟩ ⟨⟨rfl,rfl,rfl,trivial⟩,rfl⟩ ?_;rintro (_ | _) _ _ ⟨x0,x4,x5,rfl,h⟩;cases h;simp only [Ci.l0] at h;revert h)
  | (refine Bz _ _ ⟨_,_,_,rfl,by first | with_reducible exact h | exact h⟩ ⟨⟨rfl,rfl,rfl,trivial⟩,rfl⟩ ?_;omega)
  | fail
theorem Ch.ct {k:Nat} {p0:List Int} {r0:Int} {r1:Int}:Ch.f k p0=some (r0,r1)->Ct 265 [.f .i p0] [.i r0,.i r1]:=by
 refine Ax Tryz.func265 rfl rfl rfl rfl ?_;unfold Ch.f
 repeat' first
  | refine stp ?_
  | (with_reducible refine spr ?_;rintro ⟨⟩)
  | with_reducible refine And.intro ?_ ?_
  | intro h
  | refine RK.call (Cs.ct (by assumption)) rfl rfl rfl ?_
  | refine rks ?_
  | exact And.intro rfl rfl
  | (refine BA (λn σ=>∃ x0 x4 x5 x6,σ=[(0,.v (.f .i x0)),(4,.v (.i x4)),(5,.v (.i x5)),(6,.v (.i x6))]/\Ch.l0 n x0 x4 x5 x6=some (r0,r1)) _ _ ⟨_,_,_,_,rfl,by first | with_reducible exact h | exact h⟩ ⟨⟨rfl,rfl,rfl,rfl,trivial⟩,rfl⟩ ?_;rintro (_ | _) _ _ ⟨x0,x4,x5,x6,rfl,h⟩;cases h;simp only [Ch.l0] at h;revert h)
  | (refine Bz _ _ ⟨_,_,_,_,rfl,by first | with_reducible exact h | exact h⟩ ⟨⟨rfl,rfl,rfl,rfl,trivial⟩,rfl⟩ ?_;omega)
  | fail
end
end Go.Proofs.YtlgojeodceiglaaGreatDoor.PFnExactExecute
