/- Execute: a part of what is shown of the program's Execute and the reference's. -/
import Derived.Test.YtlgojeodceiglaaGreatDoorA3
namespace Go.Proofs.YtlgojeodceiglaaGreatDoor.PFnExactExecute
open Go.RowKit Go.Proofs.YtlgojeodceiglaaGreatDoorW.PrintWords Go.Proofs.YtlgojeodceiglaaGreatDoorW.PrintLast Go.Proofs.YtlgojeodceiglaaGreatDoorW.PrintMore
attribute [local go_sem] WO WQ WS WT WM WN WP WR
set_option linter.unusedVariables false
set_option linter.unusedSimpArgs false
set_option maxRecDepth 100000
set_option maxHeartbeats 0
section
theorem CM.ct {k:Nat} {p0:List Int} {r0:Bool}:CM.f k p0=some r0->Ct 100 [.f .i p0] [.b r0]:=by
 refine Ax Tryz.func100 rfl rfl rfl rfl ?_;unfold CM.f
 repeat' first
  | refine stp ?_
  | (with_reducible refine spr ?_;rintro ⟨⟩)
  | with_reducible refine And.intro ?_ ?_
  | intro h
  | refine rks ?_
  | exact (rfl:_=_)
  | (refine BA (λn σ=>∃ x0 x5 x6 x7,σ=[(0,.v (.f .i x0)),(5,.v (.f .i x5)),(6,.v (.i x6)),(7,.v (.i x7))]/\CM.l0 n x0 x5 x6 x7=some r0) _ _ ⟨_,_,_,_,rfl,by first | with_reducible exact h | exact h⟩ ⟨⟨rfl,rfl,rfl,rfl,trivial⟩,rfl⟩ ?_;rintro (_ | _) _ _ ⟨x0,x5,x6,x7,rfl,h⟩;cases h;simp only [CM.l0] at h;revert h)
  | (refine Bz _ _ ⟨_,_,_,_,rfl,by first | with_reducible exact h | exact h⟩ ⟨⟨rfl,rfl,rfl,rfl,trivial⟩,rfl⟩ ?_;omega)
  | fail
theorem Ej.ct {p0:List Int} {r0:Int}:Ej.f p0=some r0->Ct 101 [.f .i p0] [.i r0]:=by
 refine Ax Tryz.func101 rfl rfl rfl rfl ?_;unfold Ej.f
 repeat' first
  | refine stp ?_
  | (with_reducible refine spr ?_;rintro ⟨⟩)
  | with_reducible refine And.intro ?_ ?_
  | intro h
  | refine DB true false (by kernel_rfl) rfl ?_
  | refine rks ?_
  | exact (rfl:_=_)
  | fail
theorem DC.ct {k:Nat} {p0:List Int} {r0:Int} {r1:Bool}:DC.f k p0=some (r0,r1)->Ct 49 [.f .i p0] [.i r0,.b r1]:=by
 refine Ax Tryz.func49 rfl rfl rfl rfl ?_;unfold DC.f
 repeat' first
  | refine stp ?_
  | (with_reducible refine spr ?_;rintro ⟨⟩)
  | with_reducible refine And.intro ?_ ?_
  | intro h
  | refine RK.call (CM.ct (by assumption)) rfl rfl rfl ?_
  | refine RK.call (Ej.ct (by assumption)) rfl rfl rfl ?_
  | refine rks ?_
  | exact And.intro rfl rfl
  | fail
theorem Ao.ct {k:Nat} {p0:List Int} {p1:Int} {r0:Int}:Ao.f k p0 p1=some r0->Ct 190 [.f .i p0,.i p1] [.i r0]:=by
 refine Ax Tryz.func190 rfl rfl rfl rfl ?_;unfold Ao.f
 repeat' first
  | refine stp ?_
  | (with_reducible refine spr ?_;rintro ⟨⟩)
  | with_reducible refine And.intro ?_ ?_
  | intro h
  | refine rks ?_
  | exact (rfl:_=_)
  | (refine BA (λn σ=>∃ x0 x1 x7 x8,σ=[(0,.v (.f .i x0)),(1,.v (.i x1)),(7,.v (.i x7)),(8,.v (.i x8))]/\Ao.l0 n x0 x1 x7 x8=some r0) _ _ ⟨_,_,_,_,rfl,by first | with_reducible exact h | exact h⟩ ⟨⟨rfl,rfl,rfl,rfl,trivial⟩,rfl⟩ ?_;rintro (_ | _) _ _ ⟨x0,x1,x7,x8,rfl,h⟩;cases h;simp only [Ao.l0] at h;revert h)
  | (refine Bz _ _ ⟨_,_,_,_,rfl,by first | with_reducible exact h | exact h⟩ ⟨⟨rfl,rfl,rfl,rfl,trivial⟩,rfl⟩ ?_;omega)
  | fail
theorem AF.ct {k:Nat} {p0:List Int} {p1:Int} {r0:Bool}:AF.f k p0 p1=some r0->Ct 123 [.f .i p0,.i p1] [.b r0]:=by
 refine Ax Tryz.func123 rfl rfl rfl rfl ?_;unfold AF.f
 repeat' first
  | refine stp ?_
  | (with_reducible refine spr ?_;rintro ⟨⟩)
  | with_reducible refine And.intro ?_ ?_
  | intro h
  | refine RK.call (Ao.ct (by assumption)) rfl rfl rfl ?_
  | refine rks ?_
  | exact (rfl:_=_)
  | fail
theorem BN.ct {k:Nat} {p0:List Int} {r0:Bool}:BN.f k p0=some r0->Ct 180 [.f .i p0] [.b r0]:=by
 refine Ax Tryz.func180 rfl rfl rfl rfl ?_;unfold BN.f
 repeat' first
  | refine stp ?_
  | (with_reducible refine spr ?_;rintro ⟨⟩)
  | with_reducible refine And.intro ?_ ?_
  | intro h
  | refine RK.call (AF.ct (by assumption)) rfl rfl rfl ?_
  | refine rks ?_
  | exact (rfl:_=_)
  | (refine BA (λn σ=>∃ x0 x5 x6 x7,σ=[(0,.v (.f .i x0)),(5,.v (.f .i x5)),(6,.v (.i x6)),(7,.v (.i x7))]/\BN.l0 n x0 x5 x6 x7=some r0) _ _ ⟨_,_,_,_,rfl,by first | with_reducible exact h | exact h⟩ ⟨⟨rfl,rfl,rfl,rfl,trivial⟩,rfl⟩ ?_;rintro (_ | _) _ _ ⟨x0,x5,x6,x7,rfl,h⟩;cases h;simp only [BN.l0] at h;revert h)
  | (refine Bz _ _ ⟨_,_,_,_,rfl,by first | with_reducible exact h | exact h⟩ ⟨⟨rfl,rfl,rfl,rfl,trivial⟩,rfl⟩ ?_;omega)
  | fail
theorem Fe.ct {p0:Int} {p1:Int} {r0:Int}:Fe.f p0 p1=some r0->Ct 243 [.i p0,.i p1] [.i r0]:=by
 refine Ax Tryz.func243 rfl rfl rfl rfl ?_;unfold Fe.f
 repeat' first
  | refine stp ?_
  | (with_reducible refine spr ?_;rintro ⟨⟩)
  | with_reducible refine And.intro ?_ ?_
  | intro h
  | refine rks ?_
  | exact (rfl:_=_)
  | fail
theorem Db.ct {k:Nat} {p0:List Int} {p1:List Int} {r0:List Int}:Db.f k p0 p1=some r0->Ct 181 [.f .i p0,.f .i p1] [.o .i r0]:=by
 refine Ax Tryz.func181 rfl rfl rfl rfl ?_;unfold Db.f
 repeat' first
  | refine stp ?_
  | (with_reducible refine spr ?_;rintro ⟨⟩)
  | with_reducible refine And.intro ?_ ?_
  | intro h
  | refine DB false false (by kernel_rfl) rfl ?_
  | refine RK.call (Fe.ct (by assumption)) rfl rfl rfl ?_
  | refine rks ?_
  | exact Exists.intro _ rfl
  | (refine BA (λn σ=>∃ x0 x1 x5 x9,σ=[(0,.v (.f .i x0)),(1,.v (.f .i x1)),(5,.v (.o .i x5)),(9,.v (.i x9))]/\Db.l0 n x0 x1 x5 x9=some r0) _ _ ⟨_,_,_,_,rfl,by first | with_reducible exact h | exact h⟩ ⟨⟨rfl,rfl,rfl,rfl,trivial⟩,rfl⟩ ?_;rintro (_ | _) _ _ ⟨x0,x1,x5,x9,rfl,h⟩;cases h;simp only [Db.l0] at h;revert h)
  | (refine Bz _ _ ⟨_,_,_,_,rfl,by first | with_reducible exact h | exact h⟩ ⟨⟨rfl,rfl,rfl,rfl,trivial⟩,rfl⟩ ?_;omega)
  | (refine BA (λn σ=>∃ x0 x1 x5 x6 x9 x12 x13,σ=[(0,.v (.f .i x0)),(1,.v (.f .i x1)),(5,.v (.o .i x5)),(6,.v (.i x6)),(9,.v (.i x9)),(12,.v (.i x12)),(13,.v (.i x13))]/\Db.l1 n x0 x1 x5 x6 x9 x12 x13=some r0) _ _ ⟨_,_,_,_,_,_,_,rfl,by first | with_reducible exact h | exact h⟩ ⟨⟨rfl,rfl,rfl,rfl,rfl,rfl,rfl,trivial⟩,rfl⟩ ?_;rintro (_ | _) _ _ ⟨x0,x1,x5,x6,x9,x12,x13,rfl,h⟩;cases h;simp only [Db.l1] at h;revert h)
  | (refine Bz _ _ ⟨_,_,_,_,_,_,_,rfl,by first | with_reducible exact h | exact h⟩ ⟨⟨rfl,rfl,rfl,rfl,rfl,rfl,rfl,trivial⟩,rfl⟩ ?_;omega)
  | fail
theorem DQ.ct {p0:Int} {p1:Int} {r0:Int}:DQ.f p0 p1=some r0->Ct 244 [.i p0,.i p1] [.i r0]:=by
 refine Ax Tryz.func244 rfl rfl rfl rfl ?_;unfold DQ.f
 repeat' first
  | refine stp ?_
  | (with_reducible refine spr ?_;rintro ⟨⟩)
  | with_reducible refine And.intro ?_ ?_
  | intro h
  | refine RK.call (BJ.ct (by assumption)) rfl rfl rfl ?_
  | refine rks ?_
  | exact (rfl:_=_)
  | fail
theorem Bh.ct {k:Nat} {p0:List Int} {p1:List Int} {r0:Int}:Bh.f k p0 p1=some r0->Ct 182 [.f .i p0,.f .i p1] [.i r0]:=by
 refine Ax Tryz.func182 rfl rfl rfl rfl ?_;unfold Bh.f
 repeat' first
  | refine stp ?_
  | (with_reducible refine spr ?_;rintro ⟨⟩)
  | with_reducible refine And.intro ?_ ?_
  | intro h
  | refine RK.call (DQ.ct (by assumption)) rfl rfl rfl ?_
  | refine rks ?_
  | exact (rfl:_=_)
  | (refine BA (λn σ=>∃ x0 x1 x9 x10 x11,σ=[(0,.v (.f .i x0)),(1,.v (.f .i x1)),(9,.v (.f .i x9)),(10,.v (.i x10)),(11,.v (.i x11))]/\Bh.l0 n x0 x1 x9 x10 x11=some r0) _ _ ⟨_,_,_,_,_,rfl,by first | with_reducible exact h | exact h⟩ ⟨⟨rfl,rfl,rfl,rfl,rfl,trivial⟩,rfl⟩ ?_;rintro (_ | _) _ _ ⟨x0,x1,x9,x10,x11,rfl,h⟩;cases h;simp only [Bh.l0] at h;revert h)
  | (refine Bz _ _ ⟨_,_,_,_,_,rfl,by first | with_reducible exact h | exact h⟩ ⟨⟨rfl,rfl,rfl,rfl,rfl,trivial⟩,rfl⟩ ?_;omega)
  | fail
theorem B5.ct {k:Nat} {p0:List Int} {r0:List Int}:B5.f k p0=some r0->Ct 102 [.f .i p0] [.f .i r0]:=by
 refine Ax Tryz.func102 rfl rfl rfl rfl ?_;unfold B5.f
 repeat' first
  | refine stp ?_
  | (with_reducible refine spr ?_;rintro ⟨⟩)
  | with_reducible refine And.intro ?_ ?_
  | intro h
  | refine RK.call (BN.ct (by assumption)) rfl rfl rfl ?_
  | refine RK.call (Db.ct (by assumption)) rfl rfl rfl ?_
  | refine RK.call (Bh.ct (by assumption)) rfl rfl rfl ?_
  | refine RK.call (Aj.ct (by assumption)) rfl rfl rfl ?_
  | refine RK.fz 6 rfl ?_
  | refine rks ?_
  | exact (rfl:_=_)
  | (refine BA (λn σ=>∃ x0 x3 x8,σ=[(0,.v (.f .i x0)),(3,.v (.f .i x3)),(8,.v (.i x8))]/\B5.l0 n x0 x3 x8=some r0) _ _ ⟨_,_,_,rfl,by first | with_reducible exact h | exact h⟩ ⟨⟨rfl,rfl,rfl,trivial⟩,rfl⟩ ?_;rintro (_ | _) _ _ ⟨x0,x3,x8,rfl,h⟩;cases h;simp only [B5.l0] at h;revert h)
  | (refine Bz _ _ ⟨_,_,_,rfl,by first | with_reducible exact h | exact h⟩ ⟨⟨rfl,rfl,rfl,trivial⟩,rfl⟩ ?_;omega)
  | fail
theorem DR.ct {k:Nat} {p0:List Int} {r0:List Int} {r1:Bool}:DR.f k p0=some (r0,r1)->Ct 50 [.f .i p0] [.f .i r0,.b r1]:=by
 refine Ax Tryz.func50 rfl rfl rfl rfl ?_;unfold DR.f
 repeat' first
  | refine stp ?_
  | (with_reducible refine spr ?_;rintro ⟨⟩)
  | with_reducible refine And.intro ?_ ?_
  | intro h
  | refine RK.call (CM.ct (by assumption)) rfl rfl rfl ?_
  | refine RK.call (B5.ct (by assumption)) rfl rfl rfl ?_
  | refine rks ?_
  | exact And.intro rfl rfl
  | fail
theorem Ei.ct {k:Nat} {p0:List Int} {r0:Int} {r1:Bool}:Ei.f k p0=some (r0,r1)->Ct 53 [.f .i p0] [.i r0,.b r1]:=by
 refine Ax Tryz.func53 rfl rfl rfl rfl ?_;unfold Ei.f
 repeat' first
  | refine stp ?_
  | (with_reducible refine spr ?_;rintro ⟨⟩)
  | with_reducible refine And.intro ?_ ?_
  | intro h
  | refine RK.call (AA.ct (by assumption)) rfl rfl rfl ?_
  | refine RK.call (B8.ct (by assumption)) rfl rfl rfl ?_
  | refine rks ?_
  | exact And.intro rfl rfl
  | fail
theorem EF.ct {k:Nat} {p0:List Int} {r0:ByteArray} {r1:Bool}:EF.f k p0=some (r0,r1)->Ct 58 [.f .i p0] [.s r0,.b r1]:=by
 refine Ax Tryz.func58 rfl rfl rfl rfl ?_;unfold EF.f
 repeat' first
  | refine stp ?_
  | (with_reducible refine spr ?_;rintro ⟨⟩)
  | with_reducible refine And.intro ?_ ?_
  | intro h
  | refine DB false false (by kernel_rfl) rfl ?_
  | refine RK.call (BT.ct (by assumption)) rfl rfl rfl ?_
  | refine rks ?_
  | exact And.intro rfl rfl
  | fail
theorem EE.ct {k:Nat} {p0:List Int} {r0:List Int} {r1:Bool}:EE.f k p0=some (r0,r1)->Ct 60 [.f .i p0] [.o .i r0,.b r1]:=by
 refine Ax Tryz.func60 rfl rfl rfl rfl ?_;unfold EE.f
 repeat' first
  | refine stp ?_
  | (with_reducible refine spr ?_;rintro ⟨⟩)
  | with_reducible refine And.intro ?_ ?_
  | intro h
  | refine DB false false (by kernel_rfl) rfl ?_
  | refine RK.call (BT.ct (by assumption)) rfl rfl rfl ?_
  | refine RK.call (B8.ct (by assumption)) rfl rfl rfl ?_
  | refine rks ?_
  | exact And.intro (Exists.intro _ rfl) rfl
  | fail
theorem ED.ct {k:Nat} {p0:List Int} {r0:Int} {r1:Bool}:ED.f k p0=some (r0,r1)->Ct 61 [.f .i p0] [.i r0,.b r1]:=by
 refine Ax Tryz.func61 rfl rfl rfl rfl ?_;unfold ED.f
 repeat' first
  | refine stp ?_
  | (with_reducible refine spr ?_;rintro ⟨⟩)
  | with_reducible refine And.intro ?_ ?_
  | intro h
  | refine RK.call (AA.ct (by assumption)) rfl rfl rfl ?_
  | refine RK.call (DU.ct (by assumption)) rfl rfl rfl ?_
  | refine rks ?_
  | exact And.intro rfl rfl
  | fail
theorem BM.ct {k:Nat} {p0:List Int} {r0:Int} {r1:Bool}:BM.f k p0=some (r0,r1)->Ct 62 [.f .i p0] [.i r0,.b r1]:=by
 refine Ax Tryz.func62 rfl rfl rfl rfl ?_;unfold BM.f
 repeat' first
  | refine stp ?_
  | (with_reducible refine spr ?_;rintro ⟨⟩)
  | with_reducible refine And.intro ?_ ?_
  | intro h
  | refine RK.call (AA.ct (by assumption)) rfl rfl rfl ?_
  | refine RK.call (CI.ct (by assumption)) rfl rfl rfl ?_
  | refine rks ?_
  | exact And.intro rfl rfl
  | (refine BA (λn σ=>∃ x0 x4,σ=[(0,.v (.f .i x0)),(4,.v (.i x4))]/\BM.l0 n x0 x4=some (r0,r1)) _ _ ⟨_,_,rfl,by first | with_reducible exact h | exact h⟩ ⟨⟨rfl,rfl,trivial⟩,rfl⟩ ?_;rintro (_ | _) _ _ ⟨x0,x4,rfl,h⟩;cases h;simp only [BM.l0] at h;revert h)
  | (refine Bz _ _ ⟨_,_,rfl,by first | with_reducible exact h | exact h⟩ ⟨⟨rfl,rfl,trivial⟩,rfl⟩ ?_;omega)
  | fail
theorem D5.ct {k:Nat} {p0:List Int} {r0:List Int} {r1:Bool}:D5.f k p0=some (r0,r1)->Ct 63 [.f .i p0] [.o .i r0,.b r1]:=by
 refine Ax Tryz.func63 rfl rfl rfl rfl ?_;unfold D5.f
 repeat' first
  | refine stp ?_
  | (with_reducible refine spr ?_;rintro ⟨⟩)
  | with_reducible refine And.intro ?_ ?_
  | intro h
  | refine RK.call (BM.ct (by assumption)) rfl rfl rfl ?_
  | refine RK.call (Aj.ct (by assumption)) rfl rfl rfl ?_
  | refine rks ?_
  | exact And.intro (Exists.intro _ rfl) rfl
  | fail
theorem EC.ct {k:Nat} {p0:List Int} {r0:Int} {r1:Bool}:EC.f k p0=some (r0,r1)->Ct 64 [.f .i p0] [.i r0,.b r1]:=by
 refine Ax Tryz.func64 rfl rfl rfl rfl ?_;unfold EC.f
 repeat' first
  | refine stp ?_
  | (with_reducible refine spr ?_;rintro ⟨⟩)
  | with_reducible refine And.intro ?_ ?_
  | intro h
  | refine RK.call (AA.ct (by assumption)) rfl rfl rfl ?_
  | refine RK.call (DU.ct (by assumption)) rfl rfl rfl ?_
  | refine rks ?_
  | exact And.intro rfl rfl
  | fail
theorem D2.ct {k:Nat} {p0:List Int} {r0:Int} {r1:Bool}:D2.f k p0=some (r0,r1)->Ct 66 [.f .i p0] [.i r0,.b r1]:=by
 refine Ax Tryz.func66 rfl rfl rfl rfl ?_;unfold D2.f
 repeat' first
  | refine stp ?_
  | (with_reducible refine spr ?_;rintro ⟨⟩)
  | with_reducible refine And.intro ?_ ?_
  | intro h
  | refine RK.call (Cj.ct (by assumption)) rfl rfl rfl ?_
  | refine rks ?_
  | exact And.intro rfl rfl
  | fail
theorem Bo.ct {k:Nat} {p0:List Bool} {p1:Bool} {r0:Int}:Bo.f k p0 p1=some r0->Ct 256 [.f .b p0,.b p1] [.i r0]:=by
 refine Ax Tryz.func256 rfl rfl rfl rfl ?_;unfold Bo.f
 repeat' first
  | refine stp ?_
  | (with_reducible refine spr ?_;rintro ⟨⟩)
  | with_reducible refine And.intro ?_ ?_
  | intro h
  | refine rks ?_
  | exact (rfl:_=_)
  | (refine BA (λn σ=>∃ x0 x1 x7 x8,σ=[(0,.v (.f .b x0)),(1,.v (.b x1)),(7,.v (.i x7)),(8,.v (.i x8))]/\Bo.l0 n x0 x1 x7 x8=some r0) _ _ ⟨_,_,_,_,rfl,by first | with_reducible exact h | exact h⟩ ⟨⟨rfl,rfl,rfl,rfl,trivial⟩,rfl⟩ ?_;rintro (_ | _) _ _ ⟨x0,x1,x7,x8,rfl,h⟩;cases h;simp only [Bo.l0] at h;revert h)
  | (refine Bz _ _ ⟨_,_,_,_,rfl,by first | with_reducible exact h | exact h⟩ ⟨⟨rfl,rfl,rfl,rfl,trivial⟩,rfl⟩ ?_;omega)
  | fail
theorem Cd.ct {k:Nat} {p0:List Bool} {p1:Bool} {r0:Bool}:Cd.f k p0 p1=some r0->Ct 186 [.f .b p0,.b p1] [.b r0]:=by
 refine Ax Tryz.func186 rfl rfl rfl rfl ?_;unfold Cd.f
 repeat' first
  | refine stp ?_
  | (with_reducible refine spr ?_;rintro ⟨⟩)
  | with_reducible refine And.intro ?_ ?_
  | intro h
  | refine RK.call (Bo.ct (by assumption)) rfl rfl rfl ?_
  | refine rks ?_
  | exact (rfl:_=_)
  | fail
theorem Ah.ct {k:Nat} {p0:List Int} {p1:Int} {r0:Bool}:Ah.f k p0 p1=some r0->Ct 118 [.f .i p0,.i p1] [.b r0]:=by
 refine Ax Tryz.func118 rfl rfl rfl rfl ?_;unfold Ah.f
 repeat' first
  | refine stp ?_
  | (with_reducible refine spr ?_;rintro ⟨⟩)
  | (unfold Ah.j0;split;exact spz)
  | (unfold Ah.j4;split;exact spz)
  | with_reducible refine And.intro ?_ ?_
  | intro h
  | refine RK.call (Am.ct (by assumption)) rfl rfl rfl ?_
  | refine RK.call (B8.ct (by assumption)) rfl rfl rfl ?_
  | refine RK.call (Cd.ct (by assumption)) rfl rfl rfl ?_
  | refine rks ?_
  | exact (rfl:_=_)
  | (refine BA (λn σ=>∃ x0 x1 x24 x25,σ=[(0,.v (.f .i x0)),(1,.v (.i x1)),(24,.v (.i x24)),(25,.v (.i x25))]/\Ah.l0 n x0 x1 x24 x25=some r0) _ _ ⟨_,_,_,_,rfl,by first | with_reducible exact h | exact h⟩ ⟨⟨rfl,rfl,rfl,rfl,trivial⟩,rfl⟩ ?_;rintro (_ | _) _ _ ⟨x0,x1,x24,x25,rfl,h⟩;cases h;simp only [Ah.l0] at h;revert h)
  | (refine Bz _ _ ⟨_,_,_,_,rfl,by first | with_reducible exact h | exact h⟩ ⟨⟨rfl,rfl,rfl,rfl,trivial⟩,rfl⟩ ?_;omega)
  | (refine BA (λn σ=>∃ x0 x1 x6 x24 x25 x34 x35 x36,σ=[(0,.v (.f .i x0)),(1,.v (.i x1)),(6,.v (.o .b x6)),(24,.v (.i x24)),(25,.v (.i x25)),(34,.v (.f .i x34)),(35,.v (.i x35)),(36,.v (.i x36))]/\Ah.l1 n x0 x1 x6 x24 x25 x34 x35 x36=some r0) _ _ ⟨_,_,_,_,_,_,_,_,rfl,by first | with_reducible exact h | exact h⟩ ⟨⟨rfl,rfl,rfl,rfl,rfl,rfl,rfl,rfl,trivial⟩,rfl⟩ ?_;rintro (_ | _) _ _ ⟨x0,x1,x6,x24,x25,x34,x35,x36,rfl,h⟩;cases h;simp only [Ah.l1] at h;revert h)
  | (refine Bz _ _ ⟨_,_,_,_,_,_,_,_,rfl,by first | with_reducible exact h | exact h⟩ ⟨⟨rfl,rfl,rfl,rfl,rfl,rfl,rfl,rfl,trivial⟩,rfl⟩ ?_;omega)
  | (refine BA (λn σ=>∃ x0 x1 x8 x9 x24 x25 x34 x35 x36 x43 x44 x45,σ=[(0,.v (.f .i x0)),(1,.v (.i x1)),(8,.v (.i x8)),(9,.v (.o .b x9)),(24,.v (.i x24)),(25,.v (.i x25)),(34,.v (.f .i x34)),(35,.v (.i x35)),(36,.v (.i x36)),(43,.a 6),(44,.v (.i x44)),(45,.v (.i x45)),(6,.v (.o .b x43))]/\Ah.l2 n x0 x1 x8 x9 x24 x25 x34 x35 x36 x43 x44 x45=some r0) _ _ ⟨_,_,_,_,_,_,_,_,_,_,_,_,rfl,by first | with_reducible exact h | exact h⟩ ⟨⟨rfl,rfl,rfl,rfl,rfl,rfl,rfl,rfl,rfl,rfl,rfl,rfl,rfl,trivial⟩,rfl⟩ ?_;rintro (_ | _) _ _ ⟨x0,x1,x8,x9,x24,x25,x34,x35,x36,x43,x44,x45,rfl,h⟩;cases h;simp only [Ah.l2] at h;revert h)
  | (refine Bz _ _ ⟨_,_,_,_,_,_,_,_,_,_,_,_,rfl,by first | with_reducible exact h | exact h⟩ ⟨⟨rfl,rfl,rfl,rfl,rfl,rfl,rfl,rfl,rfl,rfl,rfl,rfl,rfl,trivial⟩,rfl⟩ ?_;omega)
  | fail
theorem Cv.ct {k:Nat} {p0:List Int} {r0:Int} {r1:Bool}:Cv.f k p0=some (r0,r1)->Ct 71 [.f .i p0] [.i r0,.b r1]:=by
 refine Ax Tryz.func71 rfl rfl rfl rfl ?_;unfold Cv.f
 repeat' first
  | refine stp ?_
  | (with_reducible refine spr ?_;rintro ⟨⟩)
  | with_reducible refine And.intro ?_ ?_
  | intro h
  | refine RK.call (Am.ct (by assumption)) rfl rfl rfl ?_
  | refine RK.call (Ah.ct (by assumption)) rfl rfl rfl ?_
  | refine rks ?_
  | exact And.intro rfl rfl
  | (refine BA (λn σ=>∃ x0 x4,σ=[(0,.v (.f .i x0)),(4,.v (.i x4))]/\Cv.l0 n x0 x4=some (r0,r1)) _ _ ⟨_,_,rfl,by first | with_reducible exact h | exact h⟩ ⟨⟨rfl,rfl,trivial⟩,rfl⟩ ?_;rintro (_ | _) _ _ ⟨x0,x4,rfl,h⟩;cases h;simp only [Cv.l0] at h;revert h)
  | (refine Bz _ _ ⟨_,_,rfl,by first | with_reducible exact h | exact h⟩ ⟨⟨rfl,rfl,trivial⟩,rfl⟩ ?_;omega)
  | fail
theorem BS.ct {k:Nat} {p0:List Int} {r0:Int} {r1:Bool}:BS.f k p0=some (r0,r1)->Ct 72 [.f .i p0] [.i r0,.b r1]:=by
 refine Ax Tryz.func72 rfl rfl rfl rfl ?_;unfold BS.f
 repeat' first
  | refine stp ?_
  | (with_reducible refine spr ?_;rintro ⟨⟩)
  | with_reducible refine And.intro ?_ ?_
  | intro h
  | refine RK.call (Am.ct (by assumption)) rfl rfl rfl ?_
  | refine RK.call (Av.ct (by assumption)) rfl rfl rfl ?_
  | refine rks ?_
  | exact And.intro rfl rfl
  | (refine BA (λn σ=>∃ x4 x5 x6 x7 x15 x16 x17,σ=[(4,.v (.i x4)),(5,.v (.i x5)),(6,.v (.i x6)),(7,.v (.i x7)),(15,.v (.f .i x15)),(16,.v (.i x16)),(17,.v (.i x17))]/\BS.l0 n x4 x5 x6 x7 x15 x16 x17=some (r0,r1)) _ _ ⟨_,_,_,_,_,_,_,rfl,by first | with_reducible exact h | exact h⟩ ⟨⟨rfl,rfl,rfl,rfl,rfl,rfl,rfl,trivial⟩,rfl⟩ ?_;rintro (_ | _) _ _ ⟨x4,x5,x6,x7,x15,x16,x17,rfl,h⟩;cases h;simp only [BS.l0] at h;revert h)
  | (refine Bz _ _ ⟨_,_,_,_,_,_,_,rfl,by first | with_reducible exact h | exact h⟩ ⟨⟨rfl,rfl,rfl,rfl,rfl,rfl,rfl,trivial⟩,rfl⟩ ?_;omega)
  | fail
theorem DS.ct {k:Nat} {p0:Int} {p1:Int} {p2:Int} {r0:Bool}:DS.f k p0 p1 p2=some r0->Ct 257 [.i p0,.i p1,.i p2] [.b r0]:=by
 refine Ax Tryz.func257 rfl rfl rfl rfl ?_;unfold DS.f
 repeat' first
  | refine stp ?_
  | (with_reducible refine spr ?_;rintro ⟨⟩)
  | with_reducible refine And.intro ?_ ?_
  | intro h
  | refine RK.call (Am.ct (by assumption)) rfl rfl rfl ?_
  | refine rks ?_
  | exact (rfl:_=_)
  | fail
theorem AZ.ct {k:Nat} {p0:List Int} {p1:List Int} {p2:Int} {r0:Bool}:AZ.f k p0 p1 p2=some r0->Ct 188 [.f .i p0,.f .i p1,.i p2] [.b r0]:=by
 refine Ax Tryz.func188 rfl rfl rfl rfl ?_;unfold AZ.f
 repeat' first
  | refine stp ?_
  | (with_reducible refine spr ?_;rintro ⟨⟩)
  | with_reducible refine And.intro ?_ ?_
  | intro h
  | refine DB false false (by kernel_rfl) rfl ?_
  | refine RK.call (DS.ct (by assumption)) rfl rfl rfl ?_
  | refine rks ?_
  | exact (rfl:_=_)
  | (refine BA (λn σ=>∃ x0 x1 x11 x12,σ=[(0,.v (.f .i x0)),(1,.v (.f .i x1)),(11,.v (.i x11)),(12,.v (.i x12))]/\AZ.l0 n x0 x1 x11 x12=some r0) _ _ ⟨_,_,_,_,rfl,by first | with_reducible exact h | exact h⟩ ⟨⟨rfl,rfl,rfl,rfl,trivial⟩,rfl⟩ ?_;rintro (_ | _) _ _ ⟨x0,x1,x11,x12,rfl,h⟩;cases h;simp only [AZ.l0] at h;revert h)
  | (refine Bz _ _ ⟨_,_,_,_,rfl,by first | with_reducible exact h | exact h⟩ ⟨⟨rfl,rfl,rfl,rfl,trivial⟩,rfl⟩ ?_;omega)
  | (refine BA (λn σ=>∃ x0 x1 x7 x8 x11 x12 x16 x17 x18,σ=[(0,.v (.f .i x0)),(1,.v (.f .i x1)),(7,.v (.i x7)),(8,.v (.o .i x8)),(11,.v (.i x11)),(12,.v (.i x12)),(16,.v (.f .i x16)),(17,.v (.i x17)),(18,.v (.i x18))]/\AZ.l1 n x0 x1 x7 x8 x11 x12 x16 x17 x18=some r0) _ _ ⟨_,_,_,_,_,_,_,_,_,rfl,by first | with_reducible exact h | exact h⟩ ⟨⟨rfl,rfl,rfl,rfl,rfl,rfl,rfl,rfl,rfl,trivial⟩,rfl⟩ ?_;rintro (_ | _) _ _ ⟨x0,x1,x7,x8,x11,x12,x16,x17,x18,rfl,h⟩;cases h;simp only [AZ.l1] at h;revert h)
  | (refine Bz _ _ ⟨_,_,_,_,_,_,_,_,_,rfl,by first | with_reducible exact h | exact h⟩ ⟨⟨rfl,rfl,rfl,rfl,rfl,rfl,rfl,rfl,rfl,trivial⟩,rfl⟩ ?_;omega)
  | fail
theorem BB.ct {k:Nat} {p0:List Int} {p1:Int} {r0:Int}:BB.f k p0 p1=some r0->Ct 189 [.f .i p0,.i p1] [.i r0]:=by
 refine Ax Tryz.func189 rfl rfl rfl rfl ?_;unfold BB.f
 repeat' first
  | refine stp ?_
  | (with_reducible refine spr ?_;rintro ⟨⟩)
  | with_reducible refine And.intro ?_ ?_
  | intro h
  | refine rks ?_
  | exact (rfl:_=_)
  | (refine BA (λn σ=>∃ x1 x5 x8 x9 x10,σ=[(1,.v (.i x1)),(5,.v (.i x5)),(8,.v (.f .i x8)),(9,.v (.i x9)),(10,.v (.i x10))]/\BB.l0 n x1 x5 x8 x9 x10=some r0) _ _ ⟨_,_,_,_,_,rfl,by first | with_reducible exact h | exact h⟩ ⟨⟨rfl,rfl,rfl,rfl,rfl,trivial⟩,rfl⟩ ?_;rintro (_ | _) _ _ ⟨x1,x5,x8,x9,x10,rfl,h⟩;cases h;simp only [BB.l0] at h;revert h)
  | (refine Bz _ _ ⟨_,_,_,_,_,rfl,by first | with_reducible exact h | exact h⟩ ⟨⟨rfl,rfl,rfl,rfl,rfl,trivial⟩,rfl⟩ ?_;omega)
  | fail
theorem Bw.ct {k:Nat} {p0:List Int} {r0:Int} {r1:Bool}:Bw.f k p0=some (r0,r1)->Ct 76 [.f .i p0] [.i r0,.b r1]:=by
 refine Ax Tryz.func76 rfl rfl rfl rfl ?_;unfold Bw.f
 repeat' first
  | refine stp ?_
  | (with_reducible refine spr ?_;rintro ⟨⟩)
  | with_reducible refine And.intro ?_ ?_
  | intro h
  | refine RK.call (AA.ct (by assumption)) rfl rfl rfl ?_
  | refine RK.call (B8.ct (by assumption)) rfl rfl rfl ?_
  | refine rks ?_
  | exact And.intro rfl rfl
  | (refine BA (λn σ=>∃ x0 x4 x5,σ=[(0,.v (.f .i x0)),(4,.v (.i x4)),(5,.v (.i x5))]/\Bw.l0 n x0 x4 x5=some (r0,r1)) _ _ ⟨_,_,_,rfl,by first | with_reducible exact h | exact h⟩ ⟨⟨rfl,rfl,rfl,trivial⟩,rfl⟩ ?_;rintro (_ | _) _ _ ⟨x0,x4,x5,rfl,h⟩;cases h;simp only [Bw.l0] at h;revert h)
  | (refine Bz _ _ ⟨_,_,_,rfl,by first | with_reducible exact h | exact h⟩ ⟨⟨rfl,rfl,rfl,trivial⟩,rfl⟩ ?_;omega)
  | (refine BA (λn σ=>∃ x0 x4 x5 x6 x19 x20 x21,σ=[(0,.v (.f .i x0)),(4,.v (.i x4)),(5,.v (.i x5)),(6,.v (.i x6)),(19,.v (.f .i x19)),(20,.v (.i x20)),(21,.v (.i x21))]/\Bw.l1 n x0 x4 x5 x6 x19 x20 x21=some (r0,r1)) _ _ ⟨_,_,_,_,_,_,_,rfl,by first | with_reducible exact h | exact h⟩ ⟨⟨rfl,rfl,rfl,rfl,rfl,rfl,rfl,trivial⟩,rfl⟩ ?_;rintro (_ | _) _ _ ⟨x0,x4,x5,x6,x19,x20,x21,rfl,h⟩;cases h;simp only [Bw.l1] at h;revert h)
  | (refine Bz _ _ ⟨_,_,_,_,_,_,_,rfl,by first | with_reducible exact h | exact h⟩ ⟨⟨rfl,rfl,rfl,rfl,rfl,rfl,rfl,trivial⟩,rfl⟩ ?_;omega)
  | fail
theorem Ck.ct {k:Nat} {p0:List Int} {r0:ByteArray} {r1:Bool}:Ck.f k p0=some (r0,r1)->Ct 77 [.f .i p0] [.s r0,.b r1]:=by
 refine Ax Tryz.func77 rfl rfl rfl rfl ?_;unfold Ck.f
 repeat' first
  | refine stp ?_
  | (with_reducible refine spr ?_;rintro ⟨⟩)
  | (unfold Ck.j0;split;exact spz)
  | with_reducible refine And.intro ?_ ?_
  | intro h
  | refine RK.call (AA.ct (by assumption)) rfl rfl rfl ?_
  | refine RK.call (CI.ct (by assumption)) rfl rfl rfl ?_
  | refine RK.call (DU.ct (by assumption)) rfl rfl rfl ?_
  | refine RK.call (strconv_Itoa.ct (by assumption)) rfl rfl rfl ?_
  | refine rks ?_
  | exact And.intro rfl rfl
  | fail
end
end Go.Proofs.YtlgojeodceiglaaGreatDoor.PFnExactExecute
