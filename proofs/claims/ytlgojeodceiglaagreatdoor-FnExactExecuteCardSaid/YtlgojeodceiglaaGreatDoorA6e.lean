/- Execute: a part of what is shown of the program's Execute and the reference's. -/
import Derived.Test.YtlgojeodceiglaaGreatDoorA6d
namespace Go.Proofs.YtlgojeodceiglaaGreatDoor.PFnExactExecute
open Go.RowKit Go.Proofs.YtlgojeodceiglaaGreatDoorW.PrintWords Go.Proofs.YtlgojeodceiglaaGreatDoorW.PrintLast Go.Proofs.YtlgojeodceiglaaGreatDoorW.PrintMore
attribute [local go_sem] WO WQ WS WT WM WN WP WR
set_option linter.unusedVariables false
set_option linter.unusedSimpArgs false
set_option maxRecDepth 100000
set_option maxHeartbeats 0
section
theorem B6.ct:∀ {k:Nat} {p0:S150} {r0:Int},B6.f k p0.f0 p0.f1=some r0->Ct 269 [.h (.k .n p0)] [.i r0]:=by
 intro k
 induction k using Nat.strongRecOn with
 | ind k IH=>
 intro p0 r0;have ih:∀ {k':Nat} {p0:S150} {r0:Int},B6.f k' p0.f0 p0.f1=some r0->k'<k->Ct 269 [.h (.k .n p0)] [.i r0]:=λh hk=>IH _ hk h;clear IH
 cases k with
 | zero=>exact spz
 | succ k=>
 refine Ax Tryz.func269 rfl rfl rfl rfl ?_;simp only [B6.f]
 repeat' first
  | refine stp ?_
  | (with_reducible refine spr ?_;rintro ⟨⟩)
  | (unfold B6.j0;split;exact spz)
  | with_reducible refine And.intro ?_ ?_
  | intro h
  | refine DB false false (by kernel_rfl) rfl ?_
  | refine RK.call (ih (by assumption) (by omega)) rfl rfl rfl ?_
  | refine rks ?_
  | exact (rfl:_=_)
  | fail
theorem De.ct {k:Nat} {p0:ByteArray} {r0:Int} {s0:List S150} {r1:Bool}:De.f k p0=some (r0,s0,r1)->Ct 229 [.s p0] [.h (.k .n ⟨r0,s0⟩),.b r1]:=by
 refine Ax Tryz.func229 rfl rfl rfl rfl ?_;unfold De.f
 repeat' first
  | refine stp ?_
  | (with_reducible refine spr ?_;rintro ⟨⟩)
  | with_reducible refine And.intro ?_ ?_
  | intro h
  | refine DB true false (by kernel_rfl) rfl ?_
  | refine RK.call (Eb.ct (by assumption)) rfl rfl rfl ?_
  | refine RK.call (B6.ct (by assumption)) rfl rfl rfl ?_
  | refine RK.fi rfl rfl rfl ?_
  | refine rks ?_
  | exact And.intro (Exists.intro _ (Exists.intro _ (And.intro rfl (And.intro rfl rfl)))) rfl
  | fail
theorem AX.ct {k:Nat} {p0:Int} {p1:Int} {r0:Int}:AX.f k p0 p1=some r0->Ct 234 [.y p0,.i p1] [.y r0]:=by
 refine Ax Tryz.func234 rfl rfl rfl rfl ?_;unfold AX.f
 repeat' first
  | refine stp ?_
  | (with_reducible refine spr ?_;rintro ⟨⟩)
  | with_reducible refine And.intro ?_ ?_
  | intro h
  | refine rks ?_
  | exact (rfl:_=_)
  | (refine BA (λn σ=>∃ x0 x1 x5,σ=[(0,.v (.y x0)),(1,.v (.i x1)),(5,.v (.i x5))]/\AX.l0 n x0 x1 x5=some r0) _ _ ⟨_,_,_,rfl,by first | with_reducible exact h | exact h⟩ ⟨⟨rfl,rfl,rfl,trivial⟩,rfl⟩ ?_;rintro (_ | _) _ _ ⟨x0,x1,x5,rfl,h⟩;cases h;simp only [AX.l0] at h;revert h)
  | (refine Bz _ _ ⟨_,_,_,rfl,by first | with_reducible exact h | exact h⟩ ⟨⟨rfl,rfl,rfl,trivial⟩,rfl⟩ ?_;omega)
  | fail
theorem Az.ct:∀ {k:Nat} {p0:S150} {r0:ByteArray},Az.f k p0.f0 p0.f1=some r0->Ct 230 [.h (.k .n p0)] [.s r0]:=by
 intro k
 induction k using Nat.strongRecOn with
 | ind k IH=>
 intro p0 r0;have ih:∀ {k':Nat} {p0:S150} {r0:ByteArray},Az.f k' p0.f0 p0.f1=some r0->k'<k->Ct 230 [.h (.k .n p0)] [.s r0]:=λh hk=>IH _ hk h;clear IH
 cases k with
 | zero=>exact spz
 | succ k=>
 refine Ax Tryz.func230 rfl rfl rfl rfl ?_;simp only [Az.f]
 repeat' first
  | refine stp ?_
  | (with_reducible refine spr ?_;rintro ⟨⟩)
  | (unfold Az.j0;split;exact spz)
  | (unfold Az.j2;split;exact spz)
  | with_reducible refine And.intro ?_ ?_
  | intro h
  | refine DB false false (by kernel_rfl) rfl ?_
  | refine RK.call (ih (by assumption) (by omega)) rfl rfl rfl ?_
  | refine RK.call (AX.ct (by assumption)) rfl rfl rfl ?_
  | refine rks ?_
  | exact (rfl:_=_)
  | (refine BA (λn σ=>∃ x3 x4 x5,σ=[(3,.v (.s x3)),(4,.v (.o .y x4)),(5,.v (.i x5)),(1,.v (.h (.r .n p0)))]/\Az.l0 n x3 x4 x5 p0.f0 p0.f1=some r0) _ _ ⟨_,_,_,rfl,by first | with_reducible exact h | exact h⟩ ⟨⟨rfl,rfl,rfl,rfl,trivial⟩,rfl⟩ ?_;rintro (_ | _) _ _ ⟨x3,x4,x5,rfl,h⟩;cases h;simp only [Az.l0] at h;revert h)
  | (refine Bz _ _ ⟨_,_,_,rfl,by first | with_reducible exact h | exact h⟩ ⟨⟨rfl,rfl,rfl,rfl,trivial⟩,rfl⟩ ?_;omega)
  | (refine BA (λn σ=>∃ x6 x7 x8,σ=[(6,.v (.s x6)),(7,.v (.s x7)),(8,.v (.y x8)),(1,.v (.h (.r .n p0)))]/\Az.l1 n x6 x7 x8 p0.f0 p0.f1=some r0) _ _ ⟨_,_,_,rfl,by first | with_reducible exact h | exact h⟩ ⟨⟨rfl,rfl,rfl,rfl,trivial⟩,rfl⟩ ?_;rintro (_ | _) _ _ ⟨x6,x7,x8,rfl,h⟩;cases h;simp only [Az.l1] at h;revert h)
  | (refine Bz _ _ ⟨_,_,_,rfl,by first | with_reducible exact h | exact h⟩ ⟨⟨rfl,rfl,rfl,rfl,trivial⟩,rfl⟩ ?_;omega)
  | fail
theorem Dm.ct {k:Nat} {p0:ByteArray} {r0:ByteArray} {r1:Bool}:Dm.f k p0=some (r0,r1)->Ct 162 [.s p0] [.s r0,.b r1]:=by
 refine Ax Tryz.func162 rfl rfl rfl rfl ?_;unfold Dm.f
 repeat' first
  | refine stp ?_
  | (with_reducible refine spr ?_;rintro ⟨⟩)
  | with_reducible refine And.intro ?_ ?_
  | intro h
  | refine RK.call (De.ct (by assumption)) rfl rfl rfl ?_
  | refine RK.call (Az.ct (by assumption)) rfl rfl rfl ?_
  | refine RK.fi rfl rfl rfl ?_
  | refine rks ?_
  | exact And.intro rfl rfl
  | fail
theorem C4.ct:∀ {k:Nat} {p0:S150} {r0:Int} {r1:Int} {r2:Int},C4.f k p0.f0 p0.f1=some (r0,r1,r2)->Ct 231 [.h (.k .n p0)] [.i r0,.i r1,.i r2]:=by
 intro k
 induction k using Nat.strongRecOn with
 | ind k IH=>
 intro p0 r0 r1 r2;have ih:∀ {k':Nat} {p0:S150} {r0:Int} {r1:Int} {r2:Int},C4.f k' p0.f0 p0.f1=some (r0,r1,r2)->k'<k->Ct 231 [.h (.k .n p0)] [.i r0,.i r1,.i r2]:=λh hk=>IH _ hk h;clear IH
 cases k with
 | zero=>exact spz
 | succ k=>
 refine Ax Tryz.func231 rfl rfl rfl rfl ?_;simp only [C4.f]
 repeat' first
  | refine stp ?_
  | (with_reducible refine spr ?_;rintro ⟨⟩)
  | with_reducible refine And.intro ?_ ?_
  | intro h
  | refine RK.call (ih (by assumption) (by omega)) rfl rfl rfl ?_
  | refine rks ?_
  | exact And.intro rfl (And.intro rfl rfl)
  | fail
theorem DW.ct {k:Nat} {p0:ByteArray} {r0:Int} {r1:Int} {r2:Bool}:DW.f k p0=some (r0,r1,r2)->Ct 163 [.s p0] [.i r0,.i r1,.b r2]:=by
 refine Ax Tryz.func163 rfl rfl rfl rfl ?_;unfold DW.f
 repeat' first
  | refine stp ?_
  | (with_reducible refine spr ?_;rintro ⟨⟩)
  | with_reducible refine And.intro ?_ ?_
  | intro h
  | refine RK.call (De.ct (by assumption)) rfl rfl rfl ?_
  | refine RK.call (C4.ct (by assumption)) rfl rfl rfl ?_
  | refine RK.fi rfl rfl rfl ?_
  | refine rks ?_
  | exact And.intro rfl (And.intro rfl rfl)
  | fail
theorem DI.ct {k:Nat} {p0:ByteArray} {r0:Int} {r1:Bool}:DI.f k p0=some (r0,r1)->Ct 164 [.s p0] [.i r0,.b r1]:=by
 refine Ax Tryz.func164 rfl rfl rfl rfl ?_;unfold DI.f
 repeat' first
  | refine stp ?_
  | (with_reducible refine spr ?_;rintro ⟨⟩)
  | with_reducible refine And.intro ?_ ?_
  | intro h
  | refine RK.call (De.ct (by assumption)) rfl rfl rfl ?_
  | refine RK.call (C4.ct (by assumption)) rfl rfl rfl ?_
  | refine RK.fi rfl rfl rfl ?_
  | refine rks ?_
  | exact And.intro rfl rfl
  | fail
end
end Go.Proofs.YtlgojeodceiglaaGreatDoor.PFnExactExecute
