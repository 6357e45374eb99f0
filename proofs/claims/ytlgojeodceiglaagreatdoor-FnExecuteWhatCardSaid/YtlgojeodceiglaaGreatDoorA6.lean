/- Execute: a part of what is shown of the program's Execute and the reference's. -/
import Derived.Test.YtlgojeodceiglaaGreatDoorA5
namespace Go.Proofs.YtlgojeodceiglaaGreatDoor.PFnExactExecute
open Go.RowKit Go.Proofs.YtlgojeodceiglaaGreatDoorW.PrintWords Go.Proofs.YtlgojeodceiglaaGreatDoorW.PrintLast Go.Proofs.YtlgojeodceiglaaGreatDoorW.PrintMore
attribute [local go_sem] WO WQ WS WT WM WN WP WR
set_option linter.unusedVariables false
set_option linter.unusedSimpArgs false
set_option maxRecDepth 100000
set_option maxHeartbeats 0
section
theorem El.ct {k:Nat} {p0:List Int} {r0:Int} {r1:Bool}:El.f k p0=some (r0,r1)->Ct 217 [.f .i p0] [.i r0,.b r1]:=by
 refine Ax Tryz.func217 rfl rfl rfl rfl ?_;unfold El.f
 repeat' first
  | refine stp ?_
  | (with_reducible refine spr ?_;rintro ⟨⟩)
  | with_reducible refine And.intro ?_ ?_
  | intro h
  | refine RK.call (Bj.ct (by assumption)) rfl rfl rfl ?_
  | refine RK.call (Ch.ct (by assumption)) rfl rfl rfl ?_
  | refine rks ?_
  | exact And.intro rfl rfl
  | fail
theorem Aw.ct {k:Nat} {p0:List Int} {p1:Int} {r0:Bool}:Aw.f k p0 p1=some r0->Ct 266 [.f .i p0,.i p1] [.b r0]:=by
 refine Ax Tryz.func266 rfl rfl rfl rfl ?_;unfold Aw.f
 repeat' first
  | refine stp ?_
  | (with_reducible refine spr ?_;rintro ⟨⟩)
  | (unfold Aw.j3;split;exact spz)
  | with_reducible refine And.intro ?_ ?_
  | intro h
  | refine rks ?_
  | exact (rfl:_=_)
  | (refine BA (λn σ=>∃ x0 x1 x5 x6,σ=[(0,.v (.f .i x0)),(1,.v (.i x1)),(5,.v (.o .b x5)),(6,.v (.i x6))]/\Aw.l0 n x0 x1 x5 x6=some r0) _ _ ⟨_,_,_,_,rfl,by first | with_reducible exact h | exact h⟩ ⟨⟨rfl,rfl,rfl,rfl,trivial⟩,rfl⟩ ?_;rintro (_ | _) _ _ ⟨x0,x1,x5,x6,rfl,h⟩;cases h;simp only [Aw.l0] at h;revert h)
  | (refine Bz _ _ ⟨_,_,_,_,rfl,by first | with_reducible exact h | exact h⟩ ⟨⟨rfl,rfl,rfl,rfl,trivial⟩,rfl⟩ ?_;omega)
  | (refine BA (λn σ=>∃ x0 x1 x5 x7,σ=[(0,.v (.f .i x0)),(1,.v (.i x1)),(5,.v (.o .b x5)),(7,.v (.i x7))]/\Aw.l1 n x0 x1 x5 x7=some r0) _ _ ⟨_,_,_,_,rfl,by first | with_reducible exact h | exact h⟩ ⟨⟨rfl,rfl,rfl,rfl,trivial⟩,rfl⟩ ?_;rintro (_ | _) _ _ ⟨x0,x1,x5,x7,rfl,h⟩;cases h;simp only [Aw.l1] at h;revert h)
  | (refine Bz _ _ ⟨_,_,_,_,rfl,by first | with_reducible exact h | exact h⟩ ⟨⟨rfl,rfl,rfl,rfl,trivial⟩,rfl⟩ ?_;omega)
  | (refine BA (λn σ=>∃ x0 x1 x5 x7 x8 x9,σ=[(0,.v (.f .i x0)),(1,.v (.i x1)),(5,.v (.o .b x5)),(7,.v (.i x7)),(8,.v (.o .b x8)),(9,.v (.i x9))]/\Aw.l2 n x0 x1 x5 x7 x8 x9=some r0) _ _ ⟨_,_,_,_,_,_,rfl,by first | with_reducible exact h | exact h⟩ ⟨⟨rfl,rfl,rfl,rfl,rfl,rfl,trivial⟩,rfl⟩ ?_;rintro (_ | _) _ _ ⟨x0,x1,x5,x7,x8,x9,rfl,h⟩;cases h;simp only [Aw.l2] at h;revert h)
  | (refine Bz _ _ ⟨_,_,_,_,_,_,rfl,by first | with_reducible exact h | exact h⟩ ⟨⟨rfl,rfl,rfl,rfl,rfl,rfl,trivial⟩,rfl⟩ ?_;omega)
  | (refine BA (λn σ=>∃ x1 x5 x10,σ=[(1,.v (.i x1)),(5,.v (.o .b x5)),(10,.v (.i x10))]/\Aw.l3 n x1 x5 x10=some r0) _ _ ⟨_,_,_,rfl,by first | with_reducible exact h | exact h⟩ ⟨⟨rfl,rfl,rfl,trivial⟩,rfl⟩ ?_;rintro (_ | _) _ _ ⟨x1,x5,x10,rfl,h⟩;cases h;simp only [Aw.l3] at h;revert h)
  | (refine Bz _ _ ⟨_,_,_,rfl,by first | with_reducible exact h | exact h⟩ ⟨⟨rfl,rfl,rfl,trivial⟩,rfl⟩ ?_;omega)
  | fail
theorem Cx.ct {k:Nat} {p0:List Int} {r0:Int} {r1:Bool}:Cx.f k p0=some (r0,r1)->Ct 218 [.f .i p0] [.i r0,.b r1]:=by
 refine Ax Tryz.func218 rfl rfl rfl rfl ?_;unfold Cx.f
 repeat' first
  | refine stp ?_
  | (with_reducible refine spr ?_;rintro ⟨⟩)
  | with_reducible refine And.intro ?_ ?_
  | intro h
  | refine RK.call (Bj.ct (by assumption)) rfl rfl rfl ?_
  | refine RK.call (Aw.ct (by assumption)) rfl rfl rfl ?_
  | refine rks ?_
  | exact And.intro rfl rfl
  | (refine BA (λn σ=>∃ x0 x4,σ=[(0,.v (.f .i x0)),(4,.v (.i x4))]/\Cx.l0 n x0 x4=some (r0,r1)) _ _ ⟨_,_,rfl,by first | with_reducible exact h | exact h⟩ ⟨⟨rfl,rfl,trivial⟩,rfl⟩ ?_;rintro (_ | _) _ _ ⟨x0,x4,rfl,h⟩;cases h;simp only [Cx.l0] at h;revert h)
  | (refine Bz _ _ ⟨_,_,rfl,by first | with_reducible exact h | exact h⟩ ⟨⟨rfl,rfl,trivial⟩,rfl⟩ ?_;omega)
  | fail
theorem AU.ct {k:Nat} {p0:List Int} {r0:Int} {r1:Bool}:AU.f k p0=some (r0,r1)->Ct 219 [.f .i p0] [.i r0,.b r1]:=by
 refine Ax Tryz.func219 rfl rfl rfl rfl ?_;unfold AU.f
 repeat' first
  | refine stp ?_
  | (with_reducible refine spr ?_;rintro ⟨⟩)
  | with_reducible refine And.intro ?_ ?_
  | intro h
  | refine RK.call (Bj.ct (by assumption)) rfl rfl rfl ?_
  | refine rks ?_
  | exact And.intro rfl rfl
  | (refine BA (λn σ=>∃ x0 x4 x5,σ=[(0,.v (.f .i x0)),(4,.v (.i x4)),(5,.v (.i x5))]/\AU.l0 n x0 x4 x5=some (r0,r1)) _ _ ⟨_,_,_,rfl,by first | with_reducible exact h | exact h⟩ ⟨⟨rfl,rfl,rfl,trivial⟩,rfl⟩ ?_;rintro (_ | _) _ _ ⟨x0,x4,x5,rfl,h⟩;cases h;simp only [AU.l0] at h;revert h)
  | (refine Bz _ _ ⟨_,_,_,rfl,by first | with_reducible exact h | exact h⟩ ⟨⟨rfl,rfl,rfl,trivial⟩,rfl⟩ ?_;omega)
  | (refine BA (λn σ=>∃ x0 x4 x6 x7 x8 x9,σ=[(0,.v (.f .i x0)),(4,.v (.i x4)),(6,.v (.i x6)),(7,.v (.i x7)),(8,.v (.i x8)),(9,.v (.i x9))]/\AU.l1 n x0 x4 x6 x7 x8 x9=some (r0,r1)) _ _ ⟨_,_,_,_,_,_,rfl,by first | with_reducible exact h | exact h⟩ ⟨⟨rfl,rfl,rfl,rfl,rfl,rfl,trivial⟩,rfl⟩ ?_;rintro (_ | _) _ _ ⟨x0,x4,x6,x7,x8,x9,rfl,h⟩;cases h;simp only [AU.l1] at h;revert h)
  | (refine Bz _ _ ⟨_,_,_,_,_,_,rfl,by first | with_reducible exact h | exact h⟩ ⟨⟨rfl,rfl,rfl,rfl,rfl,rfl,trivial⟩,rfl⟩ ?_;omega)
  | fail
theorem Cb.ct {k:Nat} {p0:List Int} {r0:ByteArray} {r1:Bool}:Cb.f k p0=some (r0,r1)->Ct 220 [.f .i p0] [.s r0,.b r1]:=by
 refine Ax Tryz.func220 rfl rfl rfl rfl ?_;unfold Cb.f
 repeat' first
  | refine stp ?_
  | (with_reducible refine spr ?_;rintro ⟨⟩)
  | with_reducible refine And.intro ?_ ?_
  | intro h
  | refine RK.call (Bj.ct (by assumption)) rfl rfl rfl ?_
  | refine RK.call (Ch.ct (by assumption)) rfl rfl rfl ?_
  | refine rks ?_
  | exact And.intro rfl rfl
  | (refine BA (λn σ=>∃ x0 x5 x6 x7,σ=[(0,.v (.f .i x0)),(5,.v (.i x5)),(6,.v (.o .y x6)),(7,.v (.i x7))]/\Cb.l0 n x0 x5 x6 x7=some (r0,r1)) _ _ ⟨_,_,_,_,rfl,by first | with_reducible exact h | exact h⟩ ⟨⟨rfl,rfl,rfl,rfl,trivial⟩,rfl⟩ ?_;rintro (_ | _) _ _ ⟨x0,x5,x6,x7,rfl,h⟩;cases h;simp only [Cb.l0] at h;revert h)
  | (refine Bz _ _ ⟨_,_,_,_,rfl,by first | with_reducible exact h | exact h⟩ ⟨⟨rfl,rfl,rfl,rfl,trivial⟩,rfl⟩ ?_;omega)
  | fail
theorem ER.ct {k:Nat} {p0:List Int} {p1:ByteArray} {r0:ByteArray}:ER.f k p0 p1=some r0->Ct 153 [.f .i p0,.s p1] [.s r0]:=by
 refine Ax Tryz.func153 rfl rfl rfl rfl ?_;unfold ER.f
 repeat' first
  | refine stp ?_
  | (with_reducible refine spr ?_;rintro ⟨⟩)
  | with_reducible refine And.intro ?_ ?_
  | intro h
  | refine RK.call (BX.ct (by assumption)) rfl rfl rfl ?_
  | refine RK.call (BG.ct (by assumption)) rfl rfl rfl ?_
  | refine RK.call (Ek.ct (by assumption)) rfl rfl rfl ?_
  | refine RK.call (Bq.ct (by assumption)) rfl rfl rfl ?_
  | refine RK.call (Ci.ct (by assumption)) rfl rfl rfl ?_
  | refine RK.call (El.ct (by assumption)) rfl rfl rfl ?_
  | refine RK.call (Cx.ct (by assumption)) rfl rfl rfl ?_
  | refine RK.call (AU.ct (by assumption)) rfl rfl rfl ?_
  | refine RK.call (Cb.ct (by assumption)) rfl rfl rfl ?_
  | refine RK.call (CT.ct (by assumption)) rfl rfl rfl ?_
  | refine rks ?_
  | exact (rfl:_=_)
  | fail
theorem Ef.ct {k:Nat} {p0:List Int} {p1:ByteArray} {r0:ByteArray}:Ef.f k p0 p1=some r0->Ct 81 [.f .i p0,.s p1] [.s r0]:=by
 refine Ax Tryz.func81 rfl rfl rfl rfl ?_;unfold Ef.f
 repeat' first
  | refine stp ?_
  | (with_reducible refine spr ?_;rintro ⟨⟩)
  | with_reducible refine And.intro ?_ ?_
  | intro h
  | refine RK.call (BG.ct (by assumption)) rfl rfl rfl ?_
  | refine RK.call (En.ct (by assumption)) rfl rfl rfl ?_
  | refine RK.call (Bq.ct (by assumption)) rfl rfl rfl ?_
  | refine RK.call (DP.ct (by assumption)) rfl rfl rfl ?_
  | refine RK.call (Bg.ct (by assumption)) rfl rfl rfl ?_
  | refine RK.call (Ar.ct (by assumption)) rfl rfl rfl ?_
  | refine RK.call (DO.ct (by assumption)) rfl rfl rfl ?_
  | refine RK.call (EM.ct (by assumption)) rfl rfl rfl ?_
  | refine RK.call (CT.ct (by assumption)) rfl rfl rfl ?_
  | refine RK.call (EK.ct (by assumption)) rfl rfl rfl ?_
  | refine RK.call (EL.ct (by assumption)) rfl rfl rfl ?_
  | refine RK.call (EJ.ct (by assumption)) rfl rfl rfl ?_
  | refine RK.call (Em.ct (by assumption)) rfl rfl rfl ?_
  | refine RK.call (D9.ct (by assumption)) rfl rfl rfl ?_
  | refine RK.call (EI.ct (by assumption)) rfl rfl rfl ?_
  | refine RK.call (DT.ct (by assumption)) rfl rfl rfl ?_
  | refine RK.call (D8.ct (by assumption)) rfl rfl rfl ?_
  | refine RK.call (D0.ct (by assumption)) rfl rfl rfl ?_
  | refine RK.call (DH.ct (by assumption)) rfl rfl rfl ?_
  | refine RK.call (Bs.ct (by assumption)) rfl rfl rfl ?_
  | refine RK.call (Cl.ct (by assumption)) rfl rfl rfl ?_
  | refine RK.call (Df.ct (by assumption)) rfl rfl rfl ?_
  | refine RK.call (ER.ct (by assumption)) rfl rfl rfl ?_
  | refine rks ?_
  | exact (rfl:_=_)
  | fail
theorem BR.ct {k:Nat} {p0:List (List Int)} {p1:Bool} {r0:ByteArray}:BR.f k p0 p1=some r0->Ct 154 [.f .l p0,.b p1] [.s r0]:=by
 refine Ax Tryz.func154 rfl rfl rfl rfl ?_;unfold BR.f
 repeat' first
  | refine stp ?_
  | (with_reducible refine spr ?_;rintro ⟨⟩)
  | with_reducible refine And.intro ?_ ?_
  | intro h
  | refine RK.call (Cq.ct (by assumption)) rfl rfl rfl ?_
  | refine rks ?_
  | exact (rfl:_=_)
  | (refine BA (λn σ=>∃ x0 x5 x6,σ=[(0,.v (.f .l x0)),(5,.v (.s x5)),(6,.v (.i x6))]/\BR.l0 n x0 x5 x6=some r0) _ _ ⟨_,_,_,rfl,by first | with_reducible exact h | exact h⟩ ⟨⟨rfl,rfl,rfl,trivial⟩,rfl⟩ ?_;rintro (_ | _) _ _ ⟨x0,x5,x6,rfl,h⟩;cases h;simp only [BR.l0] at h;revert h)
  | (refine Bz _ _ ⟨_,_,_,rfl,by first | with_reducible exact h | exact h⟩ ⟨⟨rfl,rfl,rfl,trivial⟩,rfl⟩ ?_;omega)
  | fail
theorem Bd.ct {k:Nat} {p0:Int} {r0:List (List Int)}:Bd.f k p0=some r0->Ct 221 [.i p0] [.o .l r0]:=by
 refine Ax Tryz.func221 rfl rfl rfl rfl ?_;unfold Bd.f
 repeat' first
  | refine stp ?_
  | (with_reducible refine spr ?_;rintro ⟨⟩)
  | with_reducible refine And.intro ?_ ?_
  | intro h
  | refine RK.call (Ca.ct (by assumption)) rfl rfl rfl ?_
  | refine rks ?_
  | exact Exists.intro _ rfl
  | (refine BA (λn σ=>∃ x0 x3 x4,σ=[(0,.v (.i x0)),(3,.v (.o .l x3)),(4,.v (.i x4))]/\Bd.l0 n x0 x3 x4=some r0) _ _ ⟨_,_,_,rfl,by first | with_reducible exact h | exact h⟩ ⟨⟨rfl,rfl,rfl,trivial⟩,rfl⟩ ?_;rintro (_ | _) _ _ ⟨x0,x3,x4,rfl,h⟩;cases h;simp only [Bd.l0] at h;revert h)
  | (refine Bz _ _ ⟨_,_,_,rfl,by first | with_reducible exact h | exact h⟩ ⟨⟨rfl,rfl,rfl,trivial⟩,rfl⟩ ?_;omega)
  | (refine BA (λn σ=>∃ x0 x3 x4 x5,σ=[(0,.v (.i x0)),(3,.v (.o .l x3)),(4,.v (.i x4)),(5,.v (.i x5))]/\Bd.l1 n x0 x3 x4 x5=some r0) _ _ ⟨_,_,_,_,rfl,by first | with_reducible exact h | exact h⟩ ⟨⟨rfl,rfl,rfl,rfl,trivial⟩,rfl⟩ ?_;rintro (_ | _) _ _ ⟨x0,x3,x4,x5,rfl,h⟩;cases h;simp only [Bd.l1] at h;revert h)
  | (refine Bz _ _ ⟨_,_,_,_,rfl,by first | with_reducible exact h | exact h⟩ ⟨⟨rfl,rfl,rfl,rfl,trivial⟩,rfl⟩ ?_;omega)
  | fail
theorem CX.ct {k:Nat} {p0:Int} {r0:List (List Int)} {r1:Bool}:CX.f k p0=some (r0,r1)->Ct 155 [.i p0] [.o .l r0,.b r1]:=by
 refine Ax Tryz.func155 rfl rfl rfl rfl ?_;unfold CX.f
 repeat' first
  | refine stp ?_
  | (with_reducible refine spr ?_;rintro ⟨⟩)
  | with_reducible refine And.intro ?_ ?_
  | intro h
  | refine RK.call (Cu.ct (by assumption)) rfl rfl rfl ?_
  | refine RK.call (Bd.ct (by assumption)) rfl rfl rfl ?_
  | refine rks ?_
  | exact And.intro (Exists.intro _ rfl) rfl
  | fail
theorem DK.ct {p0:Int} {r0:Int} {r1:Bool}:DK.f p0=some (r0,r1)->Ct 156 [.i p0] [.i r0,.b r1]:=by
 refine Ax Tryz.func156 rfl rfl rfl rfl ?_;unfold DK.f
 repeat' first
  | refine stp ?_
  | (with_reducible refine spr ?_;rintro ⟨⟩)
  | with_reducible refine And.intro ?_ ?_
  | intro h
  | refine RK.call (Cu.ct (by assumption)) rfl rfl rfl ?_
  | refine rks ?_
  | exact And.intro rfl rfl
  | fail
theorem BQ.ct {k:Nat} {p0:Int} {r0:Int}:BQ.f k p0=some r0->Ct 222 [.i p0] [.i r0]:=by
 refine Ax Tryz.func222 rfl rfl rfl rfl ?_;unfold BQ.f
 repeat' first
  | refine stp ?_
  | (with_reducible refine spr ?_;rintro ⟨⟩)
  | with_reducible refine And.intro ?_ ?_
  | intro h
  | refine rks ?_
  | exact (rfl:_=_)
  | (refine BA (λn σ=>∃ x0 x3 x4,σ=[(0,.v (.i x0)),(3,.v (.i x3)),(4,.v (.i x4))]/\BQ.l0 n x0 x3 x4=some r0) _ _ ⟨_,_,_,rfl,by first | with_reducible exact h | exact h⟩ ⟨⟨rfl,rfl,rfl,trivial⟩,rfl⟩ ?_;rintro (_ | _) _ _ ⟨x0,x3,x4,rfl,h⟩;cases h;simp only [BQ.l0] at h;revert h)
  | (refine Bz _ _ ⟨_,_,_,rfl,by first | with_reducible exact h | exact h⟩ ⟨⟨rfl,rfl,rfl,trivial⟩,rfl⟩ ?_;omega)
  | fail
theorem AW.ct {k:Nat} {p0:Int} {r0:List (List Int)} {r1:Bool}:AW.f k p0=some (r0,r1)->Ct 157 [.i p0] [.o .l r0,.b r1]:=by
 refine Ax Tryz.func157 rfl rfl rfl rfl ?_;unfold AW.f
 repeat' first
  | refine stp ?_
  | (with_reducible refine spr ?_;rintro ⟨⟩)
  | with_reducible refine And.intro ?_ ?_
  | intro h
  | refine DB false false (by kernel_rfl) rfl ?_
  | refine RK.call (Cu.ct (by assumption)) rfl rfl rfl ?_
  | refine RK.call (Bd.ct (by assumption)) rfl rfl rfl ?_
  | refine RK.call (Ex.ct (by assumption)) rfl rfl rfl ?_
  | refine RK.call (BQ.ct (by assumption)) rfl rfl rfl ?_
  | refine rks ?_
  | exact And.intro (Exists.intro _ rfl) rfl
  | (refine BA (λn σ=>∃ x4 x5 x6,σ=[(4,.v (.o .l x4)),(5,.v (.o .l x5)),(6,.v (.i x6))]/\AW.l0 n x4 x5 x6=some (r0,r1)) _ _ ⟨_,_,_,rfl,by first | with_reducible exact h | exact h⟩ ⟨⟨rfl,rfl,rfl,trivial⟩,rfl⟩ ?_;rintro (_ | _) _ _ ⟨x4,x5,x6,rfl,h⟩;cases h;simp only [AW.l0] at h;revert h)
  | (refine Bz _ _ ⟨_,_,_,rfl,by first | with_reducible exact h | exact h⟩ ⟨⟨rfl,rfl,rfl,trivial⟩,rfl⟩ ?_;omega)
  | fail
theorem EY.ct {p0:Int} {p1:Int} {r0:Bool}:EY.f p0 p1=some r0->Ct 223 [.i p0,.i p1] [.b r0]:=by
 refine Ax Tryz.func223 rfl rfl rfl rfl ?_;unfold EY.f
 repeat' first
  | refine stp ?_
  | (with_reducible refine spr ?_;rintro ⟨⟩)
  | with_reducible refine And.intro ?_ ?_
  | intro h
  | refine RK.call (Cu.ct (by assumption)) rfl rfl rfl ?_
  | refine rks ?_
  | exact (rfl:_=_)
  | fail
theorem Bx.ct:∀ {k:Nat} {p0:Int} {p1:Int} {p2:Int} {r0:List (List Int)},Bx.f k p0 p1 p2=some r0->Ct 224 [.i p0,.i p1,.i p2] [.o .l r0]:=by
 intro k
 induction k using Nat.strongRecOn with
 | ind k IH=>
 intro p0 p1 p2 r0;have ih:∀ {k':Nat} {p0:Int} {p1:Int} {p2:Int} {r0:List (List Int)},Bx.f k' p0 p1 p2=some r0->k'<k->Ct 224 [.i p0,.i p1,.i p2] [.o .l r0]:=λh hk=>IH _ hk h;clear IH
 cases k with
 | zero=>exact spz
 | succ k=>
 refine Ax Tryz.func224 rfl rfl rfl rfl ?_;simp only [Bx.f]
 repeat' first
  | refine stp ?_
  | (with_reducible refine spr ?_;rintro ⟨⟩)
  | with_reducible refine And.intro ?_ ?_
  | intro h
  | refine RK.call (ih (by assumption) (by omega)) rfl rfl rfl ?_
  | refine rks ?_
  | exact Exists.intro _ rfl
  | (refine BA (λn σ=>∃ x0 x1 x7 x8,σ=[(0,.v (.i x0)),(1,.v (.i x1)),(7,.v (.o .l x7)),(8,.v (.i x8))]/\Bx.l0 n x0 x1 x7 x8=some r0) _ _ ⟨_,_,_,_,rfl,by first | with_reducible exact h | exact h⟩ ⟨⟨rfl,rfl,rfl,rfl,trivial⟩,rfl⟩ ?_;rintro (_ | _) _ _ ⟨x0,x1,x7,x8,rfl,h⟩;cases h;simp only [Bx.l0] at h;revert h)
  | (refine Bz _ _ ⟨_,_,_,_,rfl,by first | with_reducible exact h | exact h⟩ ⟨⟨rfl,rfl,rfl,rfl,trivial⟩,rfl⟩ ?_;omega)
  | (refine BA (λn σ=>∃ x0 x1 x7 x8 x9 x10,σ=[(0,.v (.i x0)),(1,.v (.i x1)),(7,.v (.o .l x7)),(8,.v (.i x8)),(9,.v (.o .l x9)),(10,.v (.i x10))]/\Bx.l1 n x0 x1 x7 x8 x9 x10=some r0) _ _ ⟨_,_,_,_,_,_,rfl,by first | with_reducible exact h | exact h⟩ ⟨⟨rfl,rfl,rfl,rfl,rfl,rfl,trivial⟩,rfl⟩ ?_;rintro (_ | _) _ _ ⟨x0,x1,x7,x8,x9,x10,rfl,h⟩;cases h;simp only [Bx.l1] at h;revert h)
  | (refine Bz _ _ ⟨_,_,_,_,_,_,rfl,by first | with_reducible exact h | exact h⟩ ⟨⟨rfl,rfl,rfl,rfl,rfl,rfl,trivial⟩,rfl⟩ ?_;omega)
  | fail
theorem Cf.ct {k:Nat} {p0:Int} {p1:Int} {r0:Int} {r1:Bool}:Cf.f k p0 p1=some (r0,r1)->Ct 158 [.i p0,.i p1] [.i r0,.b r1]:=by
 refine Ax Tryz.func158 rfl rfl rfl rfl ?_;unfold Cf.f
 repeat' first
  | refine stp ?_
  | (with_reducible refine spr ?_;rintro ⟨⟩)
  | with_reducible refine And.intro ?_ ?_
  | intro h
  | refine RK.call (EY.ct (by assumption)) rfl rfl rfl ?_
  | refine RK.call (Bx.ct (by assumption)) rfl rfl rfl ?_
  | refine RK.call (CW.ct (by assumption)) rfl rfl rfl ?_
  | refine rks ?_
  | exact And.intro rfl rfl
  | (refine BA (λn σ=>∃ x6 x7 x8,σ=[(6,.v (.i x6)),(7,.v (.o .l x7)),(8,.v (.i x8))]/\Cf.l0 n x6 x7 x8=some (r0,r1)) _ _ ⟨_,_,_,rfl,by first | with_reducible exact h | exact h⟩ ⟨⟨rfl,rfl,rfl,trivial⟩,rfl⟩ ?_;rintro (_ | _) _ _ ⟨x6,x7,x8,rfl,h⟩;cases h;simp only [Cf.l0] at h;revert h)
  | (refine Bz _ _ ⟨_,_,_,rfl,by first | with_reducible exact h | exact h⟩ ⟨⟨rfl,rfl,rfl,trivial⟩,rfl⟩ ?_;omega)
  | fail
theorem Fs.ct {k:Nat} {p0:List Int} {p1:Int} {r0:Bool}:Fs.f k p0 p1=some r0->Ct 225 [.f .i p0,.i p1] [.b r0]:=by
 refine Ax Tryz.func225 rfl rfl rfl rfl ?_;unfold Fs.f
 repeat' first
  | refine stp ?_
  | (with_reducible refine spr ?_;rintro ⟨⟩)
  | with_reducible refine And.intro ?_ ?_
  | intro h
  | refine RK.call (Dx.ct (by assumption)) rfl rfl rfl ?_
  | refine rks ?_
  | exact (rfl:_=_)
  | fail
theorem Bc.ct {k:Nat} {p0:List Int} {p1:Int} {r0:Int} {r1:Bool}:Bc.f k p0 p1=some (r0,r1)->Ct 159 [.f .i p0,.i p1] [.i r0,.b r1]:=by
 refine Ax Tryz.func159 rfl rfl rfl rfl ?_;unfold Bc.f
 repeat' first
  | refine stp ?_
  | (with_reducible refine spr ?_;rintro ⟨⟩)
  | (unfold Bc.j0;split;exact spz)
  | with_reducible refine And.intro ?_ ?_
  | intro h
  | refine RK.call (Ar.ct (by assumption)) rfl rfl rfl ?_
  | refine RK.call (Cu.ct (by assumption)) rfl rfl rfl ?_
  | refine RK.call (Fs.ct (by assumption)) rfl rfl rfl ?_
  | refine rks ?_
  | exact And.intro rfl rfl
  | (refine BA (λn σ=>∃ x0 x1 x6,σ=[(0,.v (.f .i x0)),(1,.v (.i x1)),(6,.v (.i x6))]/\Bc.l0 n x0 x1 x6=some (r0,r1)) _ _ ⟨_,_,_,rfl,by first | with_reducible exact h | exact h⟩ ⟨⟨rfl,rfl,rfl,trivial⟩,rfl⟩ ?_;rintro (_ | _) _ _ ⟨x0,x1,x6,rfl,h⟩;cases h;simp only [Bc.l0] at h;revert h)
  | (refine Bz _ _ ⟨_,_,_,rfl,by first | with_reducible exact h | exact h⟩ ⟨⟨rfl,rfl,rfl,trivial⟩,rfl⟩ ?_;omega)
  | fail
theorem CN.ct {k:Nat} {p0:List Int} {r0:Bool}:CN.f k p0=some r0->Ct 226 [.f .i p0] [.b r0]:=by
 refine Ax Tryz.func226 rfl rfl rfl rfl ?_;unfold CN.f
 repeat' first
  | refine stp ?_
  | (with_reducible refine spr ?_;rintro ⟨⟩)
  | with_reducible refine And.intro ?_ ?_
  | intro h
  | refine RK.call (Cu.ct (by assumption)) rfl rfl rfl ?_
  | refine rks ?_
  | exact (rfl:_=_)
  | (refine BA (λn σ=>∃ x0 x3,σ=[(0,.v (.f .i x0)),(3,.v (.i x3))]/\CN.l0 n x0 x3=some r0) _ _ ⟨_,_,rfl,by first | with_reducible exact h | exact h⟩ ⟨⟨rfl,rfl,trivial⟩,rfl⟩ ?_;rintro (_ | _) _ _ ⟨x0,x3,rfl,h⟩;cases h;simp only [CN.l0] at h;revert h)
  | (refine Bz _ _ ⟨_,_,rfl,by first | with_reducible exact h | exact h⟩ ⟨⟨rfl,rfl,trivial⟩,rfl⟩ ?_;omega)
  | fail
theorem D1.ct {p0:List Int} {r0:Int}:D1.f p0=some r0->Ct 227 [.f .i p0] [.i r0]:=by
 refine Ax Tryz.func227 rfl rfl rfl rfl ?_;unfold D1.f
 repeat' first
  | refine stp ?_
  | (with_reducible refine spr ?_;rintro ⟨⟩)
  | with_reducible refine And.intro ?_ ?_
  | intro h
  | refine DB false false (by kernel_rfl) rfl ?_
  | refine rks ?_
  | exact (rfl:_=_)
  | fail
theorem Dg.ct {k:Nat} {p0:List Int} {r0:Int} {r1:Bool}:Dg.f k p0=some (r0,r1)->Ct 160 [.f .i p0] [.i r0,.b r1]:=by
 refine Ax Tryz.func160 rfl rfl rfl rfl ?_;unfold Dg.f
 repeat' first
  | refine stp ?_
  | (with_reducible refine spr ?_;rintro ⟨⟩)
  | with_reducible refine And.intro ?_ ?_
  | intro h
  | refine RK.call (CN.ct (by assumption)) rfl rfl rfl ?_
  | refine RK.call (D1.ct (by assumption)) rfl rfl rfl ?_
  | refine rks ?_
  | exact And.intro rfl rfl
  | fail
theorem Fy.ct {p0:Int} {p1:Int} {r0:Int}:Fy.f p0 p1=some r0->Ct 284 [.i p0,.i p1] [.i r0]:=by
 refine Ax Tryz.func284 rfl rfl rfl rfl ?_;unfold Fy.f
 repeat' first
  | refine stp ?_
  | (with_reducible refine spr ?_;rintro ⟨⟩)
  | with_reducible refine And.intro ?_ ?_
  | intro h
  | refine rks ?_
  | exact (rfl:_=_)
  | fail
theorem CC.ct {k:Nat} {p0:List Int} {p1:List Int} {r0:List Int}:CC.f k p0 p1=some r0->Ct 267 [.f .i p0,.f .i p1] [.o .i r0]:=by
 refine Ax Tryz.func267 rfl rfl rfl rfl ?_;unfold CC.f
 repeat' first
  | refine stp ?_
  | (with_reducible refine spr ?_;rintro ⟨⟩)
  | with_reducible refine And.intro ?_ ?_
  | intro h
  | refine DB false false (by kernel_rfl) rfl ?_
  | refine RK.call (Fy.ct (by assumption)) rfl rfl rfl ?_
  | refine rks ?_
  | exact Exists.intro _ rfl
  | (refine BA (λn σ=>∃ x0 x1 x5 x6,σ=[(0,.v (.f .i x0)),(1,.v (.f .i x1)),(5,.v (.o .i x5)),(6,.v (.i x6))]/\CC.l0 n x0 x1 x5 x6=some r0) _ _ ⟨_,_,_,_,rfl,by first | with_reducible exact h | exact h⟩ ⟨⟨rfl,rfl,rfl,rfl,trivial⟩,rfl⟩ ?_;rintro (_ | _) _ _ ⟨x0,x1,x5,x6,rfl,h⟩;cases h;simp only [CC.l0] at h;revert h)
  | (refine Bz _ _ ⟨_,_,_,_,rfl,by first | with_reducible exact h | exact h⟩ ⟨⟨rfl,rfl,rfl,rfl,trivial⟩,rfl⟩ ?_;omega)
  | (refine BA (λn σ=>∃ x0 x1 x5 x6 x7,σ=[(0,.v (.f .i x0)),(1,.v (.f .i x1)),(5,.v (.o .i x5)),(6,.v (.i x6)),(7,.v (.i x7))]/\CC.l1 n x0 x1 x5 x6 x7=some r0) _ _ ⟨_,_,_,_,_,rfl,by first | with_reducible exact h | exact h⟩ ⟨⟨rfl,rfl,rfl,rfl,rfl,trivial⟩,rfl⟩ ?_;rintro (_ | _) _ _ ⟨x0,x1,x5,x6,x7,rfl,h⟩;cases h;simp only [CC.l1] at h;revert h)
  | (refine Bz _ _ ⟨_,_,_,_,_,rfl,by first | with_reducible exact h | exact h⟩ ⟨⟨rfl,rfl,rfl,rfl,rfl,trivial⟩,rfl⟩ ?_;omega)
  | fail
theorem Dr.ct {k:Nat} {p0:List Int} {p1:List Int} {r0:Bool}:Dr.f k p0 p1=some r0->Ct 268 [.f .i p0,.f .i p1] [.b r0]:=by
 refine Ax Tryz.func268 rfl rfl rfl rfl ?_;unfold Dr.f
 repeat' first
  | refine stp ?_
  | (with_reducible refine spr ?_;rintro ⟨⟩)
  | with_reducible refine And.intro ?_ ?_
  | intro h
  | refine DB false false (by kernel_rfl) rfl ?_
  | refine rks ?_
  | exact (rfl:_=_)
  | (refine BA (λn σ=>∃ x0 x1 x5,σ=[(0,.v (.f .i x0)),(1,.v (.f .i x1)),(5,.v (.i x5))]/\Dr.l0 n x0 x1 x5=some r0) _ _ ⟨_,_,_,rfl,by first | with_reducible exact h | exact h⟩ ⟨⟨rfl,rfl,rfl,trivial⟩,rfl⟩ ?_;rintro (_ | _) _ _ ⟨x0,x1,x5,rfl,h⟩;cases h;simp only [Dr.l0] at h;revert h)
  | (refine Bz _ _ ⟨_,_,_,rfl,by first | with_reducible exact h | exact h⟩ ⟨⟨rfl,rfl,rfl,trivial⟩,rfl⟩ ?_;omega)
  | fail
theorem AC.ct {k:Nat} {p0:List Int} {r0:List Int}:AC.f k p0=some r0->Ct 228 [.f .i p0] [.o .i r0]:=by
 refine Ax Tryz.func228 rfl rfl rfl rfl ?_;unfold AC.f
 repeat' first
  | refine stp ?_
  | (with_reducible refine spr ?_;rintro ⟨⟩)
  | (unfold AC.j3;split;exact spz)
  | with_reducible refine And.intro ?_ ?_
  | intro h
  | refine RK.call (CC.ct (by assumption)) rfl rfl rfl ?_
  | refine RK.call (Dr.ct (by assumption)) rfl rfl rfl ?_
  | refine rks ?_
  | exact Exists.intro _ rfl
  | (refine BA (λn σ=>∃ x0 x3 x4,σ=[(0,.v (.f .i x0)),(3,.v (.o .i x3)),(4,.v (.i x4))]/\AC.l0 n x0 x3 x4=some r0) _ _ ⟨_,_,_,rfl,by first | with_reducible exact h | exact h⟩ ⟨⟨rfl,rfl,rfl,trivial⟩,rfl⟩ ?_;rintro (_ | _) _ _ ⟨x0,x3,x4,rfl,h⟩;cases h;simp only [AC.l0] at h;revert h)
  | (refine Bz _ _ ⟨_,_,_,rfl,by first | with_reducible exact h | exact h⟩ ⟨⟨rfl,rfl,rfl,trivial⟩,rfl⟩ ?_;omega)
  | (refine BA (λn σ=>∃ x0 x3 x4 x5,σ=[(0,.v (.f .i x0)),(3,.v (.o .i x3)),(4,.v (.i x4)),(5,.v (.i x5))]/\AC.l1 n x0 x3 x4 x5=some r0) _ _ ⟨_,_,_,_,rfl,by first | with_reducible exact h | exact h⟩ ⟨⟨rfl,rfl,rfl,rfl,trivial⟩,rfl⟩ ?_;rintro (_ | _) _ _ ⟨x0,x3,x4,x5,rfl,h⟩;cases h;simp only [AC.l1] at h;revert h)
  | (refine Bz _ _ ⟨_,_,_,_,rfl,by first | with_reducible exact h | exact h⟩ ⟨⟨rfl,rfl,rfl,rfl,trivial⟩,rfl⟩ ?_;omega)
  | (refine BA (λn σ=>∃ x0 x3 x4 x5 x6,σ=[(0,.v (.f .i x0)),(3,.v (.o .i x3)),(4,.v (.i x4)),(5,.v (.i x5)),(6,.v (.i x6))]/\AC.l2 n x0 x3 x4 x5 x6=some r0) _ _ ⟨_,_,_,_,_,rfl,by first | with_reducible exact h | exact h⟩ ⟨⟨rfl,rfl,rfl,rfl,rfl,trivial⟩,rfl⟩ ?_;rintro (_ | _) _ _ ⟨x0,x3,x4,x5,x6,rfl,h⟩;cases h;simp only [AC.l2] at h;revert h)
  | (refine Bz _ _ ⟨_,_,_,_,_,rfl,by first | with_reducible exact h | exact h⟩ ⟨⟨rfl,rfl,rfl,rfl,rfl,trivial⟩,rfl⟩ ?_;omega)
  | fail
theorem Do.ct {k:Nat} {p0:List Int} {r0:List Int} {r1:Bool}:Do.f k p0=some (r0,r1)->Ct 161 [.f .i p0] [.o .i r0,.b r1]:=by
 refine Ax Tryz.func161 rfl rfl rfl rfl ?_;unfold Do.f
 repeat' first
  | refine stp ?_
  | (with_reducible refine spr ?_;rintro ⟨⟩)
  | with_reducible refine And.intro ?_ ?_
  | intro h
  | refine RK.call (CN.ct (by assumption)) rfl rfl rfl ?_
  | refine RK.call (AC.ct (by assumption)) rfl rfl rfl ?_
  | refine rks ?_
  | exact And.intro (Exists.intro _ rfl) rfl
  | fail
theorem An.ct:∀ {k:Nat} {p0:ByteArray} {p1:Int} {r0:Int} {s0:List S150} {r1:Int},An.f k p0 p1=some (r0,s0,r1)->Ct 270 [.s p0,.i p1] [.h (.k .n ⟨r0,s0⟩),.i r1]:=by
 intro k
 induction k using Nat.strongRecOn with
 | ind k IH=>
 intro p0 p1 r0 s0 r1;have ih:∀ {k':Nat} {p0:ByteArray} {p1:Int} {r0:Int} {s0:List S150} {r1:Int},An.f k' p0 p1=some (r0,s0,r1)->k'<k->Ct 270 [.s p0,.i p1] [.h (.k .n ⟨r0,s0⟩),.i r1]:=λh hk=>IH _ hk h;clear IH
 cases k with
 | zero=>exact spz
 | succ k=>
 refine Ax Tryz.func270 rfl rfl rfl rfl ?_;simp only [An.f]
 repeat' first
  | refine stp ?_
  | (with_reducible refine spr ?_;rintro ⟨⟩)
  | with_reducible refine And.intro ?_ ?_
  | intro h
  | refine RK.call (ih (by assumption) (by omega)) rfl rfl rfl ?_
  | refine RK.fi rfl rfl rfl ?_
  | refine rks ?_
  | exact And.intro (Exists.intro _ (Exists.intro _ (And.intro rfl (And.intro rfl rfl)))) rfl
  | fail
theorem Eb.ct {k:Nat} {p0:ByteArray} {r0:Int} {s0:List S150} {r1:Bool}:Eb.f k p0=some (r0,s0,r1)->Ct 232 [.s p0] [.h (.k .n ⟨r0,s0⟩),.b r1]:=by
 refine Ax Tryz.func232 rfl rfl rfl rfl ?_;unfold Eb.f
 repeat' first
  | refine stp ?_
  | (with_reducible refine spr ?_;rintro ⟨⟩)
  | with_reducible refine And.intro ?_ ?_
  | intro h
  | refine RK.call (An.ct (by assumption)) rfl rfl rfl ?_
  | refine RK.fi rfl rfl rfl ?_
  | refine rks ?_
  | exact And.intro (Exists.intro _ (Exists.intro _ (And.intro rfl (And.intro rfl rfl)))) rfl
  | fail
theorem B6.ct:∀ {k:Nat} {p0:S150} {r0:Int},B6.f k p0.f0 p0.f1=some r0->Ct 269 [.h (.k .n p0)] [.i r0]:=by
 intro k
 induction k using Nat.strongRecOn with
 | ind k IH=>
 intro p0 r0;have ih:∀ {k':Nat} {p0:S150} {r0:Int},B6.f k' p0.f0 p0.f1=some r0->k'<k->Ct 269 [.h (.k .n p0)] [.i r0]:=λh hk=>IH _ hk h;clear IH
 cases k with
 | zero=>exact spz
 | succ k=>
 refine Ax Tryz.func269 rfl rfl rfl rfl ?_;simp only [B6.f]
 repeat' first
  | refine stp ?_
  | (with_reducible refine spr ?_;rintro ⟨⟩)
  | (unfold B6.j0;split;exact spz)
  | with_reducible refine And.intro ?_ ?_
  | intro h
  | refine DB false false (by kernel_rfl) rfl ?_
  | refine RK.call (ih (by assumption) (by omega)) rfl rfl rfl ?_
  | refine rks ?_
  | exact (rfl:_=_)
  | fail
theorem De.ct {k:Nat} {p0:ByteArray} {r0:Int} {s0:List S150} {r1:Bool}:De.f k p0=some (r0,s0,r1)->Ct 229 [.s p0] [.h (.k .n ⟨r0,s0⟩),.b r1]:=by
 refine Ax Tryz.func229 rfl rfl rfl rfl ?_;unfold De.f
 repeat' first
  | refine stp ?_
  | (with_reducible refine spr ?_;rintro ⟨⟩)
  | with_reducible refine And.intro ?_ ?_
  | intro h
  | refine DB true false (by kernel_rfl) rfl ?_
  | refine RK.call (Eb.ct (by assumption)) rfl rfl rfl ?_
  | refine RK.call (B6.ct (by assumption)) rfl rfl rfl ?_
  | refine RK.fi rfl rfl rfl ?_
  | refine rks ?_
  | exact And.intro (Exists.intro _ (Exists.intro _ (And.intro rfl (And.intro rfl rfl)))) rfl
  | fail
theorem AX.ct {k:Nat} {p0:Int} {p1:Int} {r0:Int}:AX.f k p0 p1=some r0->Ct 234 [.y p0,.i p1] [.y r0]:=by
 refine Ax Tryz.func234 rfl rfl rfl rfl ?_;unfold AX.f
 repeat' first
  | refine stp ?_
  | (with_reducible refine spr ?_;rintro ⟨⟩)
  | with_reducible refine And.intro ?_ ?_
  | intro h
  | refine rks ?_
  | exact (rfl:_=_)
  | (refine BA (λn σ=>∃ x0 x1 x5,σ=[(0,.v (.y x0)),(1,.v (.i x1)),(5,.v (.i x5))]/\AX.l0 n x0 x1 x5=some r0) _ _ ⟨_,_,_,rfl,by first | with_reducible exact h | exact h⟩ ⟨⟨rfl,rfl,rfl,trivial⟩,rfl⟩ ?_;rintro (_ | _) _ _ ⟨x0,x1,x5,rfl,h⟩;cases h;simp only [AX.l0] at h;revert h)
  | (refine Bz _ _ ⟨_,_,_,rfl,by first | with_reducible exact h | exact h⟩ ⟨⟨rfl,rfl,rfl,trivial⟩,rfl⟩ ?_;omega)
  | fail
theorem Az.ct:∀ {k:Nat} {p0:S150} {r0:ByteArray},Az.f k p0.f0 p0.f1=some r0->Ct 230 [.h (.k .n p0)] [.s r0]:=by
 intro k
 induction k using Nat.strongRecOn with
 | ind k IH=>
 intro p0 r0;have ih:∀ {k':Nat} {p0:S150} {r0:ByteArray},Az.f k' p0.f0 p0.f1=some r0->k'<k->Ct 230 [.h (.k .n p0)] [.s r0]:=λh hk=>IH _ hk h;clear IH
 cases k with
 | zero=>exact spz
 | succ k=>
 refine Ax Tryz.func230 rfl rfl rfl rfl ?_;simp only [Az.f]
 repeat' first
  | refine stp ?_
  | (with_reducible refine spr ?_;rintro ⟨⟩)
  | (unfold Az.j0;split;exact spz)
  | (unfold Az.j2;split;exact spz)
  | with_reducible refine And.intro ?_ ?_
  | intro h
  | refine DB false false (by kernel_rfl) rfl ?_
  | refine RK.call (ih (by assumption) (by omega)) rfl rfl rfl ?_
  | refine RK.call (AX.ct (by assumption)) rfl rfl rfl ?_
  | refine rks ?_
  | exact (rfl:_=_)
  | (refine BA (λn σ=>∃ x3 x4 x5,σ=[(3,.v (.s x3)),(4,.v (.o .y x4)),(5,.v (.i x5)),(1,.v (.h (.r .n p0)))]/\Az.l0 n x3 x4 x5 p0.f0 p0.f1=some r0) _ _ ⟨_,_,_,rfl,by first | with_reducible exact h | exact h⟩ ⟨⟨rfl,rfl,rfl,rfl,trivial⟩,rfl⟩ ?_;rintro (_ | _) _ _ ⟨x3,x4,x5,rfl,h⟩;cases h;simp only [Az.l0] at h;revert h)
  | (refine Bz _ _ ⟨_,_,_,rfl,by first | with_reducible exact h | exact h⟩ ⟨⟨rfl,rfl,rfl,rfl,trivial⟩,rfl⟩ ?_;omega)
  | (refine BA (λn σ=>∃ x6 x7 x8,σ=[(6,.v (.s x6)),(7,.v (.s x7)),(8,.v (.y x8)),(1,.v (.h (.r .n p0)))]/\Az.l1 n x6 x7 x8 p0.f0 p0.f1=some r0) _ _ ⟨_,_,_,rfl,by first | with_reducible exact h | exact h⟩ ⟨⟨rfl,rfl,rfl,rfl,trivial⟩,rfl⟩ ?_;rintro (_ | _) _ _ ⟨x6,x7,x8,rfl,h⟩;cases h;simp only [Az.l1] at h;revert h)
  | (refine Bz _ _ ⟨_,_,_,rfl,by first | with_reducible exact h | exact h⟩ ⟨⟨rfl,rfl,rfl,rfl,trivial⟩,rfl⟩ ?_;omega)
  | fail
theorem Dm.ct {k:Nat} {p0:ByteArray} {r0:ByteArray} {r1:Bool}:Dm.f k p0=some (r0,r1)->Ct 162 [.s p0] [.s r0,.b r1]:=by
 refine Ax Tryz.func162 rfl rfl rfl rfl ?_;unfold Dm.f
 repeat' first
  | refine stp ?_
  | (with_reducible refine spr ?_;rintro ⟨⟩)
  | with_reducible refine And.intro ?_ ?_
  | intro h
  | refine RK.call (De.ct (by assumption)) rfl rfl rfl ?_
  | refine RK.call (Az.ct (by assumption)) rfl rfl rfl ?_
  | refine RK.fi rfl rfl rfl ?_
  | refine rks ?_
  | exact And.intro rfl rfl
  | fail
theorem C4.ct:∀ {k:Nat} {p0:S150} {r0:Int} {r1:Int} {r2:Int},C4.f k p0.f0 p0.f1=some (r0,r1,r2)->Ct 231 [.h (.k .n p0)] [.i r0,.i r1,.i r2]:=by
 intro k
 induction k using Nat.strongRecOn with
 | ind k IH=>
 intro p0 r0 r1 r2;have ih:∀ {k':Nat} {p0:S150} {r0:Int} {r1:Int} {r2:Int},C4.f k' p0.f0 p0.f1=some (r0,r1,r2)->k'<k->Ct 231 [.h (.k .n p0)] [.i r0,.i r1,.i r2]:=λh hk=>IH _ hk h;clear IH
 cases k with
 | zero=>exact spz
 | succ k=>
 refine Ax Tryz.func231 rfl rfl rfl rfl ?_;simp only [C4.f]
 repeat' first
  | refine stp ?_
  | (with_reducible refine spr ?_;rintro ⟨⟩)
  | with_reducible refine And.intro ?_ ?_
  | intro h
  | refine RK.call (ih (by assumption) (by omega)) rfl rfl rfl ?_
  | refine rks ?_
  | exact And.intro rfl (And.intro rfl rfl)
  | fail
theorem DW.ct {k:Nat} {p0:ByteArray} {r0:Int} {r1:Int} {r2:Bool}:DW.f k p0=some (r0,r1,r2)->Ct 163 [.s p0] [.i r0,.i r1,.b r2]:=by
 refine Ax Tryz.func163 rfl rfl rfl rfl ?_;unfold DW.f
 repeat' first
  | refine stp ?_
  | (with_reducible refine spr ?_;rintro ⟨⟩)
  | with_reducible refine And.intro ?_ ?_
  | intro h
  | refine RK.call (De.ct (by assumption)) rfl rfl rfl ?_
  | refine RK.call (C4.ct (by assumption)) rfl rfl rfl ?_
  | refine RK.fi rfl rfl rfl ?_
  | refine rks ?_
  | exact And.intro rfl (And.intro rfl rfl)
  | fail
theorem DI.ct {k:Nat} {p0:ByteArray} {r0:Int} {r1:Bool}:DI.f k p0=some (r0,r1)->Ct 164 [.s p0] [.i r0,.b r1]:=by
 refine Ax Tryz.func164 rfl rfl rfl rfl ?_;unfold DI.f
 repeat' first
  | refine stp ?_
  | (with_reducible refine spr ?_;rintro ⟨⟩)
  | with_reducible refine And.intro ?_ ?_
  | intro h
  | refine RK.call (De.ct (by assumption)) rfl rfl rfl ?_
  | refine RK.call (C4.ct (by assumption)) rfl rfl rfl ?_
  | refine RK.fi rfl rfl rfl ?_
  | refine rks ?_
  | exact And.intro rfl rfl
  | fail
theorem Bp.ct:∀ {k:Nat} {p0:S150} {p1:Int} {p2:Bool} {r0:ByteArray},Bp.f k p0.f0 p0.f1 p1 p2=some r0->Ct 233 [.h (.k .n p0),.i p1,.b p2] [.s r0]:=by
 intro k
 induction k using Nat.strongRecOn with
 | ind k IH=>
 intro p0 p1 p2 r0;have ih:∀ {k':Nat} {p0:S150} {p1:Int} {p2:Bool} {r0:ByteArray},Bp.f k' p0.f0 p0.f1 p1 p2=some r0->k'<k->Ct 233 [.h (.k .n p0),.i p1,.b p2] [.s r0]:=λh hk=>IH _ hk h;clear IH
 cases k with
 | zero=>exact spz
 | succ k=>
 refine Ax Tryz.func233 rfl rfl rfl rfl ?_;simp only [Bp.f]
 repeat' first
  | refine stp ?_
  | (with_reducible refine spr ?_;rintro ⟨⟩)
  | (unfold Bp.j1;split;exact spz)
  | (unfold Bp.j0;split;exact spz)
  | with_reducible refine And.intro ?_ ?_
  | intro h
  | refine DB false false (by kernel_rfl) rfl ?_
  | refine RK.call (ih (by assumption) (by omega)) rfl rfl rfl ?_
  | refine RK.call (AX.ct (by assumption)) rfl rfl rfl ?_
  | refine rks ?_
  | exact (rfl:_=_)
  | fail
theorem DJ.ct {k:Nat} {p0:ByteArray} {r0:ByteArray} {r1:Bool}:DJ.f k p0=some (r0,r1)->Ct 165 [.s p0] [.s r0,.b r1]:=by
 refine Ax Tryz.func165 rfl rfl rfl rfl ?_;unfold DJ.f
 repeat' first
  | refine stp ?_
  | (with_reducible refine spr ?_;rintro ⟨⟩)
  | with_reducible refine And.intro ?_ ?_
  | intro h
  | refine RK.call (Eb.ct (by assumption)) rfl rfl rfl ?_
  | refine RK.call (Bp.ct (by assumption)) rfl rfl rfl ?_
  | refine RK.fi rfl rfl rfl ?_
  | refine rks ?_
  | exact And.intro rfl rfl
  | fail
theorem BD.ct {k:Nat} {p0:ByteArray} {r0:Int} {r1:Int} {r2:Int} {r3:Bool}:BD.f k p0=some (r0,r1,r2,r3)->Ct 166 [.s p0] [.i r0,.i r1,.i r2,.b r3]:=by
 refine Ax Tryz.func166 rfl rfl rfl rfl ?_;unfold BD.f
 repeat' first
  | refine stp ?_
  | (with_reducible refine spr ?_;rintro ⟨⟩)
  | with_reducible refine And.intro ?_ ?_
  | intro h
  | refine RK.call (Dm.ct (by assumption)) rfl rfl rfl ?_
  | refine RK.call (AX.ct (by assumption)) rfl rfl rfl ?_
  | refine rks ?_
  | exact And.intro rfl (And.intro rfl (And.intro rfl rfl))
  | (refine BA (λn σ=>∃ x6 x7 x8 x9 x10 x11,σ=[(6,.v (.s x6)),(7,.v (.b x7)),(8,.v (.i x8)),(9,.v (.i x9)),(10,.v (.i x10)),(11,.v (.i x11))]/\BD.l0 n x6 x7 x8 x9 x10 x11=some (r0,r1,r2,r3)) _ _ ⟨_,_,_,_,_,_,rfl,by first | with_reducible exact h | exact h⟩ ⟨⟨rfl,rfl,rfl,rfl,rfl,rfl,trivial⟩,rfl⟩ ?_;rintro (_ | _) _ _ ⟨x6,x7,x8,x9,x10,x11,rfl,h⟩;cases h;simp only [BD.l0] at h;revert h)
  | (refine Bz _ _ ⟨_,_,_,_,_,_,rfl,by first | with_reducible exact h | exact h⟩ ⟨⟨rfl,rfl,rfl,rfl,rfl,rfl,trivial⟩,rfl⟩ ?_;omega)
  | fail
theorem Dc.ct {k:Nat} {p0:List Int} {p1:ByteArray} {p2:ByteArray} {r0:ByteArray}:Dc.f k p0 p1 p2=some r0->Ct 82 [.f .i p0,.s p1,.s p2] [.s r0]:=by
 refine Ax Tryz.func82 rfl rfl rfl rfl ?_;unfold Dc.f
 repeat' first
  | refine stp ?_
  | (with_reducible refine spr ?_;rintro ⟨⟩)
  | (unfold Dc.j0;split;exact spz)
  | with_reducible refine And.intro ?_ ?_
  | intro h
  | refine DB false false (by kernel_rfl) rfl ?_
  | refine RK.call (Ay.ct (by assumption)) rfl rfl rfl ?_
  | refine RK.call (CX.ct (by assumption)) rfl rfl rfl ?_
  | refine RK.call (BR.ct (by assumption)) rfl rfl rfl ?_
  | refine RK.call (DK.ct (by assumption)) rfl rfl rfl ?_
  | refine RK.call (Bq.ct (by assumption)) rfl rfl rfl ?_
  | refine RK.call (AW.ct (by assumption)) rfl rfl rfl ?_
  | refine RK.call (Cf.ct (by assumption)) rfl rfl rfl ?_
  | refine RK.call (Bc.ct (by assumption)) rfl rfl rfl ?_
  | refine RK.call (Dg.ct (by assumption)) rfl rfl rfl ?_
  | refine RK.call (Do.ct (by assumption)) rfl rfl rfl ?_
  | refine RK.call (BG.ct (by assumption)) rfl rfl rfl ?_
  | refine RK.call (Dm.ct (by assumption)) rfl rfl rfl ?_
  | refine RK.call (CT.ct (by assumption)) rfl rfl rfl ?_
  | refine RK.call (DW.ct (by assumption)) rfl rfl rfl ?_
  | refine RK.call (DI.ct (by assumption)) rfl rfl rfl ?_
  | refine RK.call (DJ.ct (by assumption)) rfl rfl rfl ?_
  | refine RK.call (BD.ct (by assumption)) rfl rfl rfl ?_
  | refine rks ?_
  | exact (rfl:_=_)
  | fail
theorem BF.ct {k:Nat} {p0:List Int} {p1:ByteArray} {r0:List Int} {r1:ByteArray}:BF.f k p0 p1=some (r0,r1)->Ct 23 [.f .i p0,.s p1] [.f .i r0,.s r1]:=by
 refine Ax Tryz.func23 rfl rfl rfl rfl ?_;unfold BF.f
 repeat' first
  | refine stp ?_
  | (with_reducible refine spr ?_;rintro ⟨⟩)
  | (unfold BF.j0;split;exact spz)
  | with_reducible refine And.intro ?_ ?_
  | intro h
  | refine RK.call (Bu.ct (by assumption)) rfl rfl rfl ?_
  | refine RK.call (Ef.ct (by assumption)) rfl rfl rfl ?_
  | refine RK.call (Dc.ct (by assumption)) rfl rfl rfl ?_
  | refine rks ?_
  | exact And.intro rfl rfl
  | (refine BA (λn σ=>∃ x0 x1 x6,σ=[(0,.v (.f .i x0)),(1,.v (.s x1)),(6,.v (.i x6))]/\BF.l0 n x0 x1 x6=some (r0,r1)) _ _ ⟨_,_,_,rfl,by first | with_reducible exact h | exact h⟩ ⟨⟨rfl,rfl,rfl,trivial⟩,rfl⟩ ?_;rintro (_ | _) _ _ ⟨x0,x1,x6,rfl,h⟩;cases h;simp only [BF.l0] at h;revert h)
  | (refine Bz _ _ ⟨_,_,_,rfl,by first | with_reducible exact h | exact h⟩ ⟨⟨rfl,rfl,rfl,trivial⟩,rfl⟩ ?_;omega)
  | fail
theorem Co.ct {k:Nat} {p0:ByteArray} {r0:ByteArray}:Co.f k p0=some r0->Ct 9 [.s p0] [.s r0]:=by
 refine Ax Tryz.func9 rfl rfl rfl rfl ?_;unfold Co.f
 repeat' first
  | refine stp ?_
  | (with_reducible refine spr ?_;rintro ⟨⟩)
  | with_reducible refine And.intro ?_ ?_
  | intro h
  | refine RK.call (BF.ct (by assumption)) rfl rfl rfl ?_
  | refine RK.call (AE.ct (by assumption)) rfl rfl rfl ?_
  | refine RK.fz 3 rfl ?_
  | refine rks ?_
  | exact (rfl:_=_)
  | (refine BA (λn σ=>∃ x0 x3 x4 x5 x6,σ=[(0,.v (.s x0)),(3,.v (.f .i x3)),(4,.v (.s x4)),(5,.v (.i x5)),(6,.v (.i x6))]/\Co.l0 n x0 x3 x4 x5 x6=some r0) _ _ ⟨_,_,_,_,_,rfl,by first | with_reducible exact h | exact h⟩ ⟨⟨rfl,rfl,rfl,rfl,rfl,trivial⟩,rfl⟩ ?_;rintro (_ | _) _ _ ⟨x0,x3,x4,x5,x6,rfl,h⟩;cases h;simp only [Co.l0] at h;revert h)
  | (refine Bz _ _ ⟨_,_,_,_,_,rfl,by first | with_reducible exact h | exact h⟩ ⟨⟨rfl,rfl,rfl,rfl,rfl,trivial⟩,rfl⟩ ?_;omega)
  | fail

end
end Go.Proofs.YtlgojeodceiglaaGreatDoor.PFnExactExecute
