/- Execute: a part of what is shown of the program's Execute and the reference's. -/
import Derived.Test.YtlgojeodceiglaaGreatDoorA5b
namespace Go.Proofs.YtlgojeodceiglaaGreatDoor.PFnExactExecute
open Go.RowKit Go.Proofs.YtlgojeodceiglaaGreatDoorW.PrintWords Go.Proofs.YtlgojeodceiglaaGreatDoorW.PrintLast Go.Proofs.YtlgojeodceiglaaGreatDoorW.PrintMore
attribute [local go_sem] WO WQ WS WT WM WN WP WR
set_option linter.unusedVariables false
set_option linter.unusedSimpArgs false
set_option maxRecDepth 100000
set_option maxHeartbeats 0
section
theorem Ec.ct {k:Nat} {p0:List Int} {r0:Bool}:Ec.f k p0=some r0->Ct 204 [.f .i p0] [.b r0]:=by
 refine Ax Tryz.func204 rfl rfl rfl rfl ?_;unfold Ec.f
 repeat' first
  | refine stp ?_
  | (with_reducible refine spr ?_;rintro ⟨⟩)
  | with_reducible refine And.intro ?_ ?_
  | intro h
  | refine DB false false (by kernel_rfl) rfl ?_
  | refine RK.call (Ar.ct (by assumption)) rfl rfl rfl ?_
  | refine RK.call (Ca.ct (by assumption)) rfl rfl rfl ?_
  | refine rks ?_
  | exact (rfl:_=_)
  | fail
theorem EM.ct {k:Nat} {p0:List Int} {r0:ByteArray} {r1:Bool}:EM.f k p0=some (r0,r1)->Ct 139 [.f .i p0] [.s r0,.b r1]:=by
 refine Ax Tryz.func139 rfl rfl rfl rfl ?_;unfold EM.f
 repeat' first
  | refine stp ?_
  | (with_reducible refine spr ?_;rintro ⟨⟩)
  | with_reducible refine And.intro ?_ ?_
  | intro h
  | refine DB false false (by kernel_rfl) rfl ?_
  | refine RK.call (Ec.ct (by assumption)) rfl rfl rfl ?_
  | refine rks ?_
  | exact And.intro rfl rfl
  | fail
theorem Ex.ct {p0:Int} {p1:Int} {p2:Int} {r0:Int}:Ex.f p0 p1 p2=some r0->Ct 205 [.i p0,.i p1,.i p2] [.i r0]:=by
 refine Ax Tryz.func205 rfl rfl rfl rfl ?_;unfold Ex.f
 repeat' first
  | refine stp ?_
  | (with_reducible refine spr ?_;rintro ⟨⟩)
  | with_reducible refine And.intro ?_ ?_
  | intro h
  | refine rks ?_
  | exact (rfl:_=_)
  | fail
theorem EK.ct {k:Nat} {p0:List Int} {r0:Int} {r1:Bool}:EK.f k p0=some (r0,r1)->Ct 140 [.f .i p0] [.i r0,.b r1]:=by
 refine Ax Tryz.func140 rfl rfl rfl rfl ?_;unfold EK.f
 repeat' first
  | refine stp ?_
  | (with_reducible refine spr ?_;rintro ⟨⟩)
  | with_reducible refine And.intro ?_ ?_
  | intro h
  | refine DB false false (by kernel_rfl) rfl ?_
  | refine RK.call (Ec.ct (by assumption)) rfl rfl rfl ?_
  | refine RK.call (Ex.ct (by assumption)) rfl rfl rfl ?_
  | refine rks ?_
  | exact And.intro rfl rfl
  | fail
theorem EL.ct {k:Nat} {p0:List Int} {r0:List Int} {r1:Bool}:EL.f k p0=some (r0,r1)->Ct 141 [.f .i p0] [.o .i r0,.b r1]:=by
 refine Ax Tryz.func141 rfl rfl rfl rfl ?_;unfold EL.f
 repeat' first
  | refine stp ?_
  | (with_reducible refine spr ?_;rintro ⟨⟩)
  | with_reducible refine And.intro ?_ ?_
  | intro h
  | refine DB false false (by kernel_rfl) rfl ?_
  | refine RK.call (Ec.ct (by assumption)) rfl rfl rfl ?_
  | refine RK.call (B4.ct (by assumption)) rfl rfl rfl ?_
  | refine rks ?_
  | exact And.intro (Exists.intro _ rfl) rfl
  | fail
theorem Dw.ct {k:Nat} {p0:List Int} {r0:Int}:Dw.f k p0=some r0->Ct 206 [.f .i p0] [.i r0]:=by
 refine Ax Tryz.func206 rfl rfl rfl rfl ?_;unfold Dw.f
 repeat' first
  | refine stp ?_
  | (with_reducible refine spr ?_;rintro ⟨⟩)
  | with_reducible refine And.intro ?_ ?_
  | intro h
  | refine DB false false (by kernel_rfl) rfl ?_
  | refine RK.call (B4.ct (by assumption)) rfl rfl rfl ?_
  | refine rks ?_
  | exact (rfl:_=_)
  | fail
theorem EJ.ct {k:Nat} {p0:List Int} {r0:Int} {r1:Bool}:EJ.f k p0=some (r0,r1)->Ct 142 [.f .i p0] [.i r0,.b r1]:=by
 refine Ax Tryz.func142 rfl rfl rfl rfl ?_;unfold EJ.f
 repeat' first
  | refine stp ?_
  | (with_reducible refine spr ?_;rintro ⟨⟩)
  | with_reducible refine And.intro ?_ ?_
  | intro h
  | refine RK.call (Ar.ct (by assumption)) rfl rfl rfl ?_
  | refine RK.call (Dw.ct (by assumption)) rfl rfl rfl ?_
  | refine rks ?_
  | exact And.intro rfl rfl
  | fail
theorem CW.ct {k:Nat} {p0:List Int} {r0:Bool}:CW.f k p0=some r0->Ct 212 [.f .i p0] [.b r0]:=by
 refine Ax Tryz.func212 rfl rfl rfl rfl ?_;unfold CW.f
 repeat' first
  | refine stp ?_
  | (with_reducible refine spr ?_;rintro ⟨⟩)
  | with_reducible refine And.intro ?_ ?_
  | intro h
  | refine RK.call (Dw.ct (by assumption)) rfl rfl rfl ?_
  | refine rks ?_
  | exact (rfl:_=_)
  | fail
theorem CB.ct {k:Nat} {p0:List Int} {r0:Int}:CB.f k p0=some r0->Ct 207 [.f .i p0] [.i r0]:=by
 refine Ax Tryz.func207 rfl rfl rfl rfl ?_;unfold CB.f
 repeat' first
  | refine stp ?_
  | (with_reducible refine spr ?_;rintro ⟨⟩)
  | with_reducible refine And.intro ?_ ?_
  | intro h
  | refine RK.call (CW.ct (by assumption)) rfl rfl rfl ?_
  | refine rks ?_
  | exact (rfl:_=_)
  | (refine BA (λn σ=>∃ x0 x3,σ=[(0,.v (.f .i x0)),(3,.v (.i x3))]/\CB.l0 n x0 x3=some r0) _ _ ⟨_,_,rfl,by first | with_reducible exact h | exact h⟩ ⟨⟨rfl,rfl,trivial⟩,rfl⟩ ?_;rintro (_ | _) _ _ ⟨x0,x3,rfl,h⟩;cases h;simp only [CB.l0] at h;revert h)
  | (refine Bz _ _ ⟨_,_,rfl,by first | with_reducible exact h | exact h⟩ ⟨⟨rfl,rfl,trivial⟩,rfl⟩ ?_;omega)
  | fail
theorem Em.ct {k:Nat} {p0:List Int} {r0:Int} {r1:Bool}:Em.f k p0=some (r0,r1)->Ct 143 [.f .i p0] [.i r0,.b r1]:=by
 refine Ax Tryz.func143 rfl rfl rfl rfl ?_;unfold Em.f
 repeat' first
  | refine stp ?_
  | (with_reducible refine spr ?_;rintro ⟨⟩)
  | with_reducible refine And.intro ?_ ?_
  | intro h
  | refine RK.call (Ar.ct (by assumption)) rfl rfl rfl ?_
  | refine RK.call (CB.ct (by assumption)) rfl rfl rfl ?_
  | refine rks ?_
  | exact And.intro rfl rfl
  | fail
theorem D9.ct {k:Nat} {p0:List Int} {r0:List Int} {r1:Bool}:D9.f k p0=some (r0,r1)->Ct 144 [.f .i p0] [.o .i r0,.b r1]:=by
 refine Ax Tryz.func144 rfl rfl rfl rfl ?_;unfold D9.f
 repeat' first
  | refine stp ?_
  | (with_reducible refine spr ?_;rintro ⟨⟩)
  | with_reducible refine And.intro ?_ ?_
  | intro h
  | refine RK.call (Ar.ct (by assumption)) rfl rfl rfl ?_
  | refine RK.call (CB.ct (by assumption)) rfl rfl rfl ?_
  | refine rks ?_
  | exact And.intro (Exists.intro _ rfl) rfl
  | fail
theorem EI.ct {k:Nat} {p0:List Int} {r0:Int} {r1:Bool}:EI.f k p0=some (r0,r1)->Ct 145 [.f .i p0] [.i r0,.b r1]:=by
 refine Ax Tryz.func145 rfl rfl rfl rfl ?_;unfold EI.f
 repeat' first
  | refine stp ?_
  | (with_reducible refine spr ?_;rintro ⟨⟩)
  | with_reducible refine And.intro ?_ ?_
  | intro h
  | refine RK.call (Ar.ct (by assumption)) rfl rfl rfl ?_
  | refine RK.call (Dw.ct (by assumption)) rfl rfl rfl ?_
  | refine rks ?_
  | exact And.intro rfl rfl
  | fail
theorem Dx.ct {k:Nat} {p0:List Int} {r0:Int} {r1:Int}:Dx.f k p0=some (r0,r1)->Ct 208 [.f .i p0] [.i r0,.i r1]:=by
 refine Ax Tryz.func208 rfl rfl rfl rfl ?_;unfold Dx.f
 repeat' first
  | refine stp ?_
  | (with_reducible refine spr ?_;rintro ⟨⟩)
  | with_reducible refine And.intro ?_ ?_
  | intro h
  | refine RK.call (B4.ct (by assumption)) rfl rfl rfl ?_
  | refine rks ?_
  | exact And.intro rfl rfl
  | fail
theorem DT.ct {k:Nat} {p0:List Int} {r0:Int} {r1:Int} {r2:Bool}:DT.f k p0=some (r0,r1,r2)->Ct 146 [.f .i p0] [.i r0,.i r1,.b r2]:=by
 refine Ax Tryz.func146 rfl rfl rfl rfl ?_;unfold DT.f
 repeat' first
  | refine stp ?_
  | (with_reducible refine spr ?_;rintro ⟨⟩)
  | with_reducible refine And.intro ?_ ?_
  | intro h
  | refine RK.call (Ar.ct (by assumption)) rfl rfl rfl ?_
  | refine RK.call (Dx.ct (by assumption)) rfl rfl rfl ?_
  | refine rks ?_
  | exact And.intro rfl (And.intro rfl rfl)
  | fail
theorem D8.ct {k:Nat} {p0:List Int} {r0:Int} {r1:Bool}:D8.f k p0=some (r0,r1)->Ct 147 [.f .i p0] [.i r0,.b r1]:=by
 refine Ax Tryz.func147 rfl rfl rfl rfl ?_;unfold D8.f
 repeat' first
  | refine stp ?_
  | (with_reducible refine spr ?_;rintro ⟨⟩)
  | with_reducible refine And.intro ?_ ?_
  | intro h
  | refine RK.call (Ar.ct (by assumption)) rfl rfl rfl ?_
  | refine RK.call (Dx.ct (by assumption)) rfl rfl rfl ?_
  | refine rks ?_
  | exact And.intro rfl rfl
  | fail
theorem Au.ct:∀ {k:Nat} {p0:List Int} {p1:Int} {p2:Int} {r0:Int},Au.f k p0 p1 p2=some r0->Ct 209 [.f .i p0,.i p1,.i p2] [.i r0]:=by
 intro k
 induction k using Nat.strongRecOn with
 | ind k IH=>
 intro p0 p1 p2 r0;have ih:∀ {k':Nat} {p0:List Int} {p1:Int} {p2:Int} {r0:Int},Au.f k' p0 p1 p2=some r0->k'<k->Ct 209 [.f .i p0,.i p1,.i p2] [.i r0]:=λh hk=>IH _ hk h;clear IH
 cases k with
 | zero=>exact spz
 | succ k=>
 refine Ax Tryz.func209 rfl rfl rfl rfl ?_;simp only [Au.f]
 repeat' first
  | refine stp ?_
  | (with_reducible refine spr ?_;rintro ⟨⟩)
  | with_reducible refine And.intro ?_ ?_
  | intro h
  | refine DB false false (by kernel_rfl) rfl ?_
  | refine RK.call (ih (by assumption) (by omega)) rfl rfl rfl ?_
  | refine RK.call (Ca.ct (by assumption)) rfl rfl rfl ?_
  | refine rks ?_
  | exact (rfl:_=_)
  | (refine BA (λn σ=>∃ x0 x1 x2 x7,σ=[(0,.v (.f .i x0)),(1,.v (.i x1)),(2,.v (.i x2)),(7,.v (.i x7))]/\Au.l0 n x0 x1 x2 x7=some r0) _ _ ⟨_,_,_,_,rfl,by first | with_reducible exact h | exact h⟩ ⟨⟨rfl,rfl,rfl,rfl,trivial⟩,rfl⟩ ?_;rintro (_ | _) _ _ ⟨x0,x1,x2,x7,rfl,h⟩;cases h;simp only [Au.l0] at h;revert h)
  | (refine Bz _ _ ⟨_,_,_,_,rfl,by first | with_reducible exact h | exact h⟩ ⟨⟨rfl,rfl,rfl,rfl,trivial⟩,rfl⟩ ?_;omega)
  | (refine BA (λn σ=>∃ x0 x1 x2 x7 x8 x9,σ=[(0,.v (.f .i x0)),(1,.v (.i x1)),(2,.v (.i x2)),(7,.v (.i x7)),(8,.v (.i x8)),(9,.v (.i x9))]/\Au.l1 n x0 x1 x2 x7 x8 x9=some r0) _ _ ⟨_,_,_,_,_,_,rfl,by first | with_reducible exact h | exact h⟩ ⟨⟨rfl,rfl,rfl,rfl,rfl,rfl,trivial⟩,rfl⟩ ?_;rintro (_ | _) _ _ ⟨x0,x1,x2,x7,x8,x9,rfl,h⟩;cases h;simp only [Au.l1] at h;revert h)
  | (refine Bz _ _ ⟨_,_,_,_,_,_,rfl,by first | with_reducible exact h | exact h⟩ ⟨⟨rfl,rfl,rfl,rfl,rfl,rfl,trivial⟩,rfl⟩ ?_;omega)
  | (refine BA (λn σ=>∃ x0 x1 x2 x7 x8 x9 x10,σ=[(0,.v (.f .i x0)),(1,.v (.i x1)),(2,.v (.i x2)),(7,.v (.i x7)),(8,.v (.i x8)),(9,.v (.i x9)),(10,.v (.i x10))]/\Au.l2 n x0 x1 x2 x7 x8 x9 x10=some r0) _ _ ⟨_,_,_,_,_,_,_,rfl,by first | with_reducible exact h | exact h⟩ ⟨⟨rfl,rfl,rfl,rfl,rfl,rfl,rfl,trivial⟩,rfl⟩ ?_;rintro (_ | _) _ _ ⟨x0,x1,x2,x7,x8,x9,x10,rfl,h⟩;cases h;simp only [Au.l2] at h;revert h)
  | (refine Bz _ _ ⟨_,_,_,_,_,_,_,rfl,by first | with_reducible exact h | exact h⟩ ⟨⟨rfl,rfl,rfl,rfl,rfl,rfl,rfl,trivial⟩,rfl⟩ ?_;omega)
  | fail
end
end Go.Proofs.YtlgojeodceiglaaGreatDoor.PFnExactExecute
