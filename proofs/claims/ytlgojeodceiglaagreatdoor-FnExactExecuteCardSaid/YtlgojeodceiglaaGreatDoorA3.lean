/- Execute: a part of what is shown of the program's Execute and the reference's. -/
import Derived.Test.YtlgojeodceiglaaGreatDoorA2
namespace Go.Proofs.YtlgojeodceiglaaGreatDoor.PFnExactExecute
open Go.RowKit Go.Proofs.YtlgojeodceiglaaGreatDoorW.PrintWords Go.Proofs.YtlgojeodceiglaaGreatDoorW.PrintLast Go.Proofs.YtlgojeodceiglaaGreatDoorW.PrintMore
attribute [local go_sem] WO WQ WS WT WM WN WP WR
set_option linter.unusedVariables false
set_option linter.unusedSimpArgs false
set_option maxRecDepth 100000
set_option maxHeartbeats 0
section
theorem CZ.ct {p0:ByteArray} {p1:Bool} {r0:ByteArray}:CZ.f p0 p1=some r0->Ct 29 [.s p0,.b p1] [.s r0]:=by
 refine Ax Tryz.func29 rfl rfl rfl rfl ?_;unfold CZ.f
 repeat' first
  | refine stp ?_
  | (with_reducible refine spr ?_;rintro ⟨⟩)
  | with_reducible refine And.intro ?_ ?_
  | intro h
  | refine rks ?_
  | exact (rfl:_=_)
  | fail
theorem C5.ct {p0:ByteArray} {p1:Int} {r0:Int}:C5.f p0 p1=some r0->Ct 177 [.s p0,.y p1] [.i r0]:=by
 refine Ax Tryz.func177 rfl rfl rfl rfl ?_;unfold C5.f
 repeat' first
  | refine stp ?_
  | (with_reducible refine spr ?_;rintro ⟨⟩)
  | with_reducible refine And.intro ?_ ?_
  | intro h
  | refine RK.call (Cr.ct (by assumption)) rfl rfl rfl ?_
  | refine rks ?_
  | exact (rfl:_=_)
  | fail
theorem Br.ct {p0:Int} {r0:Int}:Br.f p0=some r0->Ct 93 [.y p0] [.i r0]:=by
 refine Ax Tryz.func93 rfl rfl rfl rfl ?_;unfold Br.f
 repeat' first
  | refine stp ?_
  | (with_reducible refine spr ?_;rintro ⟨⟩)
  | with_reducible refine And.intro ?_ ?_
  | intro h
  | refine RK.call (C5.ct (by assumption)) rfl rfl rfl ?_
  | refine rks ?_
  | exact (rfl:_=_)
  | fail
theorem Dk.ct {p0:ByteArray} {r0:Int} {s0:List S96} {r1:Bool}:Dk.f p0=some (r0,s0,r1)->Ct 91 [.s p0] [.h (.k .m ⟨r0,s0⟩),.b r1]:=by
 refine Ax Tryz.func91 rfl rfl rfl rfl ?_;unfold Dk.f
 repeat' first
  | refine stp ?_
  | (with_reducible refine spr ?_;rintro ⟨⟩)
  | with_reducible refine And.intro ?_ ?_
  | intro h
  | refine RK.call (Ab.ct (by assumption)) rfl rfl rfl ?_
  | refine RK.fi rfl rfl rfl ?_
  | refine rks ?_
  | exact And.intro (Exists.intro _ (Exists.intro _ (And.intro rfl (And.intro rfl rfl)))) rfl
  | fail
theorem Bk.ct:∀ {k:Nat} {p0:S96} {r0:Int},Bk.f k p0.f0 p0.f1=some r0->Ct 174 [.h (.k .m p0)] [.i r0]:=by
 intro k
 induction k using Nat.strongRecOn with
 | ind k IH=>
 intro p0 r0;have ih:∀ {k':Nat} {p0:S96} {r0:Int},Bk.f k' p0.f0 p0.f1=some r0->k'<k->Ct 174 [.h (.k .m p0)] [.i r0]:=λh hk=>IH _ hk h;clear IH
 cases k with
 | zero=>exact spz
 | succ k=>
 refine Ax Tryz.func174 rfl rfl rfl rfl ?_;simp only [Bk.f]
 repeat' first
  | refine stp ?_
  | (with_reducible refine spr ?_;rintro ⟨⟩)
  | (unfold Bk.j0;split;exact spz)
  | with_reducible refine And.intro ?_ ?_
  | intro h
  | refine DB false false (by kernel_rfl) rfl ?_
  | refine RK.call (ih (by assumption) (by omega)) rfl rfl rfl ?_
  | refine rks ?_
  | exact (rfl:_=_)
  | fail
theorem Dd.ct {k:Nat} {p0:ByteArray} {r0:Int} {s0:List S96} {r1:Bool}:Dd.f k p0=some (r0,s0,r1)->Ct 88 [.s p0] [.h (.k .m ⟨r0,s0⟩),.b r1]:=by
 refine Ax Tryz.func88 rfl rfl rfl rfl ?_;unfold Dd.f
 repeat' first
  | refine stp ?_
  | (with_reducible refine spr ?_;rintro ⟨⟩)
  | with_reducible refine And.intro ?_ ?_
  | intro h
  | refine DB true false (by kernel_rfl) rfl ?_
  | refine RK.call (Dk.ct (by assumption)) rfl rfl rfl ?_
  | refine RK.call (Bk.ct (by assumption)) rfl rfl rfl ?_
  | refine RK.fi rfl rfl rfl ?_
  | refine rks ?_
  | exact And.intro (Exists.intro _ (Exists.intro _ (And.intro rfl (And.intro rfl rfl)))) rfl
  | fail
theorem AH.ct:∀ {k:Nat} {p0:S96} {r0:ByteArray},AH.f k p0.f0 p0.f1=some r0->Ct 89 [.h (.k .m p0)] [.s r0]:=by
 intro k
 induction k using Nat.strongRecOn with
 | ind k IH=>
 intro p0 r0;have ih:∀ {k':Nat} {p0:S96} {r0:ByteArray},AH.f k' p0.f0 p0.f1=some r0->k'<k->Ct 89 [.h (.k .m p0)] [.s r0]:=λh hk=>IH _ hk h;clear IH
 cases k with
 | zero=>exact spz
 | succ k=>
 refine Ax Tryz.func89 rfl rfl rfl rfl ?_;simp only [AH.f]
 repeat' first
  | refine stp ?_
  | (with_reducible refine spr ?_;rintro ⟨⟩)
  | (unfold AH.j0;split;exact spz)
  | with_reducible refine And.intro ?_ ?_
  | intro h
  | refine DB false false (by kernel_rfl) rfl ?_
  | refine RK.call (ih (by assumption) (by omega)) rfl rfl rfl ?_
  | refine RK.call (strings_Repeat.ct (by assumption)) rfl rfl rfl ?_
  | refine RK.call (Br.ct (by assumption)) rfl rfl rfl ?_
  | refine rks ?_
  | exact (rfl:_=_)
  | (refine BA (λn σ=>∃ x3 x4 x54 x55,σ=[(3,.v (.s x3)),(4,.v (.o .y x4)),(54,.v (.i x54)),(55,.v (.i x55)),(1,.v (.h (.r .m p0)))]/\AH.l0 n x3 x4 x54 x55 p0.f0 p0.f1=some r0) _ _ ⟨_,_,_,_,rfl,by first | with_reducible exact h | exact h⟩ ⟨⟨rfl,rfl,rfl,rfl,rfl,trivial⟩,rfl⟩ ?_;rintro (_ | _) _ _ ⟨x3,x4,x54,x55,rfl,h⟩;cases h;simp only [AH.l0] at h;revert h)
  | (refine Bz _ _ ⟨_,_,_,_,rfl,by first | with_reducible exact h | exact h⟩ ⟨⟨rfl,rfl,rfl,rfl,rfl,trivial⟩,rfl⟩ ?_;omega)
  | fail
theorem CD.ct {k:Nat} {p0:ByteArray} {r0:ByteArray} {r1:Bool}:CD.f k p0=some (r0,r1)->Ct 30 [.s p0] [.s r0,.b r1]:=by
 refine Ax Tryz.func30 rfl rfl rfl rfl ?_;unfold CD.f
 repeat' first
  | refine stp ?_
  | (with_reducible refine spr ?_;rintro ⟨⟩)
  | with_reducible refine And.intro ?_ ?_
  | intro h
  | refine RK.call (Dd.ct (by assumption)) rfl rfl rfl ?_
  | refine RK.call (AH.ct (by assumption)) rfl rfl rfl ?_
  | refine RK.fi rfl rfl rfl ?_
  | refine rks ?_
  | exact And.intro rfl rfl
  | fail
theorem Bb.ct {k:Nat} {p0:List Int} {p1:ByteArray} {r0:ByteArray}:Bb.f k p0 p1=some r0->Ct 94 [.f .i p0,.s p1] [.s r0]:=by
 refine Ax Tryz.func94 rfl rfl rfl rfl ?_;unfold Bb.f
 repeat' first
  | refine stp ?_
  | (with_reducible refine spr ?_;rintro ⟨⟩)
  | with_reducible refine And.intro ?_ ?_
  | intro h
  | refine RK.call (strconv_Itoa.ct (by assumption)) rfl rfl rfl ?_
  | refine RK.call (strings_Join.ct (by assumption)) rfl rfl rfl ?_
  | refine rks ?_
  | exact (rfl:_=_)
  | (refine BA (λn σ=>∃ x1 x5 x9 x10 x11,σ=[(1,.v (.s x1)),(5,.v (.o .s x5)),(9,.v (.f .i x9)),(10,.v (.i x10)),(11,.v (.i x11))]/\Bb.l0 n x1 x5 x9 x10 x11=some r0) _ _ ⟨_,_,_,_,_,rfl,by first | with_reducible exact h | exact h⟩ ⟨⟨rfl,rfl,rfl,rfl,rfl,trivial⟩,rfl⟩ ?_;rintro (_ | _) _ _ ⟨x1,x5,x9,x10,x11,rfl,h⟩;cases h;simp only [Bb.l0] at h;revert h)
  | (refine Bz _ _ ⟨_,_,_,_,_,rfl,by first | with_reducible exact h | exact h⟩ ⟨⟨rfl,rfl,rfl,rfl,rfl,trivial⟩,rfl⟩ ?_;omega)
  | fail
theorem C8.ct {k:Nat} {p0:List Int} {p1:Bool} {r0:ByteArray}:C8.f k p0 p1=some r0->Ct 37 [.f .i p0,.b p1] [.s r0]:=by
 refine Ax Tryz.func37 rfl rfl rfl rfl ?_;unfold C8.f
 repeat' first
  | refine stp ?_
  | (with_reducible refine spr ?_;rintro ⟨⟩)
  | with_reducible refine And.intro ?_ ?_
  | intro h
  | refine RK.call (Bb.ct (by assumption)) rfl rfl rfl ?_
  | refine rks ?_
  | exact (rfl:_=_)
  | fail
theorem Fk.ct {k:Nat} {p0:Int} {p1:Int} {p2:Bool} {r0:ByteArray}:Fk.f k p0 p1 p2=some r0->Ct 31 [.i p0,.i p1,.b p2] [.s r0]:=by
 refine Ax Tryz.func31 rfl rfl rfl rfl ?_;unfold Fk.f
 repeat' first
  | refine stp ?_
  | (with_reducible refine spr ?_;rintro ⟨⟩)
  | with_reducible refine And.intro ?_ ?_
  | intro h
  | refine RK.call (C8.ct (by assumption)) rfl rfl rfl ?_
  | refine rks ?_
  | exact (rfl:_=_)
  | fail
theorem BZ.ct:∀ {k:Nat} {p0:S96} {r0:Int} {r1:Int} {r2:Int},BZ.f k p0.f0 p0.f1=some (r0,r1,r2)->Ct 90 [.h (.k .m p0)] [.i r0,.i r1,.i r2]:=by
 intro k
 induction k using Nat.strongRecOn with
 | ind k IH=>
 intro p0 r0 r1 r2;have ih:∀ {k':Nat} {p0:S96} {r0:Int} {r1:Int} {r2:Int},BZ.f k' p0.f0 p0.f1=some (r0,r1,r2)->k'<k->Ct 90 [.h (.k .m p0)] [.i r0,.i r1,.i r2]:=λh hk=>IH _ hk h;clear IH
 cases k with
 | zero=>exact spz
 | succ k=>
 refine Ax Tryz.func90 rfl rfl rfl rfl ?_;simp only [BZ.f]
 repeat' first
  | refine stp ?_
  | (with_reducible refine spr ?_;rintro ⟨⟩)
  | with_reducible refine And.intro ?_ ?_
  | intro h
  | refine DB true false (by kernel_rfl) rfl ?_
  | refine RK.call (ih (by assumption) (by omega)) rfl rfl rfl ?_
  | refine RK.call (Br.ct (by assumption)) rfl rfl rfl ?_
  | refine rks ?_
  | exact And.intro rfl (And.intro rfl rfl)
  | fail
theorem DV.ct {k:Nat} {p0:ByteArray} {r0:Int} {r1:Int} {r2:Bool}:DV.f k p0=some (r0,r1,r2)->Ct 32 [.s p0] [.i r0,.i r1,.b r2]:=by
 refine Ax Tryz.func32 rfl rfl rfl rfl ?_;unfold DV.f
 repeat' first
  | refine stp ?_
  | (with_reducible refine spr ?_;rintro ⟨⟩)
  | with_reducible refine And.intro ?_ ?_
  | intro h
  | refine RK.call (Dd.ct (by assumption)) rfl rfl rfl ?_
  | refine RK.call (BZ.ct (by assumption)) rfl rfl rfl ?_
  | refine RK.fi rfl rfl rfl ?_
  | refine rks ?_
  | exact And.intro rfl (And.intro rfl rfl)
  | fail
theorem Cz.ct {k:Nat} {p0:Int} {p1:Bool} {r0:ByteArray}:Cz.f k p0 p1=some r0->Ct 33 [.i p0,.b p1] [.s r0]:=by
 refine Ax Tryz.func33 rfl rfl rfl rfl ?_;unfold Cz.f
 repeat' first
  | refine stp ?_
  | (with_reducible refine spr ?_;rintro ⟨⟩)
  | with_reducible refine And.intro ?_ ?_
  | intro h
  | refine RK.call (C8.ct (by assumption)) rfl rfl rfl ?_
  | refine rks ?_
  | exact (rfl:_=_)
  | fail
theorem DE.ct {k:Nat} {p0:ByteArray} {r0:Int} {r1:Bool}:DE.f k p0=some (r0,r1)->Ct 34 [.s p0] [.i r0,.b r1]:=by
 refine Ax Tryz.func34 rfl rfl rfl rfl ?_;unfold DE.f
 repeat' first
  | refine stp ?_
  | (with_reducible refine spr ?_;rintro ⟨⟩)
  | with_reducible refine And.intro ?_ ?_
  | intro h
  | refine RK.call (Dd.ct (by assumption)) rfl rfl rfl ?_
  | refine RK.call (BZ.ct (by assumption)) rfl rfl rfl ?_
  | refine RK.fi rfl rfl rfl ?_
  | refine rks ?_
  | exact And.intro rfl rfl
  | fail
theorem Cm.ct:∀ {k:Nat} {p0:S96} {p1:Bool} {p2:Int} {r0:ByteArray},Cm.f k p0.f0 p0.f1 p1 p2=some r0->Ct 92 [.h (.k .m p0),.b p1,.i p2] [.s r0]:=by
 intro k
 induction k using Nat.strongRecOn with
 | ind k IH=>
 intro p0 p1 p2 r0;have ih:∀ {k':Nat} {p0:S96} {p1:Bool} {p2:Int} {r0:ByteArray},Cm.f k' p0.f0 p0.f1 p1 p2=some r0->k'<k->Ct 92 [.h (.k .m p0),.b p1,.i p2] [.s r0]:=λh hk=>IH _ hk h;clear IH
 cases k with
 | zero=>exact spz
 | succ k=>
 refine Ax Tryz.func92 rfl rfl rfl rfl ?_;simp only [Cm.f]
 repeat' first
  | refine stp ?_
  | (with_reducible refine spr ?_;rintro ⟨⟩)
  | with_reducible refine And.intro ?_ ?_
  | intro h
  | refine DB false false (by kernel_rfl) rfl ?_
  | refine RK.call (ih (by assumption) (by omega)) rfl rfl rfl ?_
  | refine RK.call (Br.ct (by assumption)) rfl rfl rfl ?_
  | refine rks ?_
  | exact (rfl:_=_)
  | fail
theorem DF.ct {k:Nat} {p0:ByteArray} {r0:ByteArray} {r1:Bool}:DF.f k p0=some (r0,r1)->Ct 35 [.s p0] [.s r0,.b r1]:=by
 refine Ax Tryz.func35 rfl rfl rfl rfl ?_;unfold DF.f
 repeat' first
  | refine stp ?_
  | (with_reducible refine spr ?_;rintro ⟨⟩)
  | with_reducible refine And.intro ?_ ?_
  | intro h
  | refine RK.call (Dk.ct (by assumption)) rfl rfl rfl ?_
  | refine RK.call (Cm.ct (by assumption)) rfl rfl rfl ?_
  | refine RK.fi rfl rfl rfl ?_
  | refine rks ?_
  | exact And.intro rfl rfl
  | fail
theorem Al.ct {k:Nat} {p0:ByteArray} {r0:List Int} {r1:Bool}:Al.f k p0=some (r0,r1)->Ct 38 [.s p0] [.o .i r0,.b r1]:=by
 refine Ax Tryz.func38 rfl rfl rfl rfl ?_;unfold Al.f
 repeat' first
  | refine stp ?_
  | (with_reducible refine spr ?_;rintro ⟨⟩)
  | (unfold Al.j1;split;exact spz)
  | with_reducible refine And.intro ?_ ?_
  | intro h
  | refine RK.call (CR.ct (by assumption)) rfl rfl rfl ?_
  | refine rks ?_
  | exact And.intro (Exists.intro _ rfl) rfl
  | (refine BA (λn σ=>∃ x4 x11 x12 x13,σ=[(4,.v (.o .i x4)),(11,.v (.o .s x11)),(12,.v (.i x12)),(13,.v (.i x13))]/\Al.l0 n x4 x11 x12 x13=some (r0,r1)) _ _ ⟨_,_,_,_,rfl,by first | with_reducible exact h | exact h⟩ ⟨⟨rfl,rfl,rfl,rfl,trivial⟩,rfl⟩ ?_;rintro (_ | _) _ _ ⟨x4,x11,x12,x13,rfl,h⟩;cases h;simp only [Al.l0] at h;revert h)
  | (refine Bz _ _ ⟨_,_,_,_,rfl,by first | with_reducible exact h | exact h⟩ ⟨⟨rfl,rfl,rfl,rfl,trivial⟩,rfl⟩ ?_;omega)
  | (refine BA (λn σ=>∃ x4 x6 x7 x11 x12 x13 x26 x27,σ=[(4,.v (.o .i x4)),(6,.v (.s x6)),(7,.v (.i x7)),(11,.v (.o .s x11)),(12,.v (.i x12)),(13,.v (.i x13)),(26,.v (.i x26)),(27,.v (.i x27))]/\Al.l1 n x4 x6 x7 x11 x12 x13 x26 x27=some (r0,r1)) _ _ ⟨_,_,_,_,_,_,_,_,rfl,by first | with_reducible exact h | exact h⟩ ⟨⟨rfl,rfl,rfl,rfl,rfl,rfl,rfl,rfl,trivial⟩,rfl⟩ ?_;rintro (_ | _) _ _ ⟨x4,x6,x7,x11,x12,x13,x26,x27,rfl,h⟩;cases h;simp only [Al.l1] at h;revert h)
  | (refine Bz _ _ ⟨_,_,_,_,_,_,_,_,rfl,by first | with_reducible exact h | exact h⟩ ⟨⟨rfl,rfl,rfl,rfl,rfl,rfl,rfl,rfl,trivial⟩,rfl⟩ ?_;omega)
  | fail
theorem Am.ct {k:Nat} {p0:List Int} {r0:Bool}:Am.f k p0=some r0->Ct 40 [.f .i p0] [.b r0]:=by
 refine Ax Tryz.func40 rfl rfl rfl rfl ?_;unfold Am.f
 repeat' first
  | refine stp ?_
  | (with_reducible refine spr ?_;rintro ⟨⟩)
  | with_reducible refine And.intro ?_ ?_
  | intro h
  | refine rks ?_
  | exact (rfl:_=_)
  | (refine BA (λn σ=>∃ x0 x5 x6 x7,σ=[(0,.v (.f .i x0)),(5,.v (.f .i x5)),(6,.v (.i x6)),(7,.v (.i x7))]/\Am.l0 n x0 x5 x6 x7=some r0) _ _ ⟨_,_,_,_,rfl,by first | with_reducible exact h | exact h⟩ ⟨⟨rfl,rfl,rfl,rfl,trivial⟩,rfl⟩ ?_;rintro (_ | _) _ _ ⟨x0,x5,x6,x7,rfl,h⟩;cases h;simp only [Am.l0] at h;revert h)
  | (refine Bz _ _ ⟨_,_,_,_,rfl,by first | with_reducible exact h | exact h⟩ ⟨⟨rfl,rfl,rfl,rfl,trivial⟩,rfl⟩ ?_;omega)
  | fail
theorem Da.ct {k:Nat} {p0:List (List Int)} {p1:Bool} {r0:ByteArray}:Da.f k p0 p1=some r0->Ct 43 [.f .l p0,.b p1] [.s r0]:=by
 refine Ax Tryz.func43 rfl rfl rfl rfl ?_;unfold Da.f
 repeat' first
  | refine stp ?_
  | (with_reducible refine spr ?_;rintro ⟨⟩)
  | with_reducible refine And.intro ?_ ?_
  | intro h
  | refine RK.call (Bb.ct (by assumption)) rfl rfl rfl ?_
  | refine RK.call (strings_Join.ct (by assumption)) rfl rfl rfl ?_
  | refine rks ?_
  | exact (rfl:_=_)
  | (refine BA (λn σ=>∃ x5 x14 x15 x16,σ=[(5,.v (.o .s x5)),(14,.v (.f .l x14)),(15,.v (.i x15)),(16,.v (.i x16))]/\Da.l0 n x5 x14 x15 x16=some r0) _ _ ⟨_,_,_,_,rfl,by first | with_reducible exact h | exact h⟩ ⟨⟨rfl,rfl,rfl,rfl,trivial⟩,rfl⟩ ?_;rintro (_ | _) _ _ ⟨x5,x14,x15,x16,rfl,h⟩;cases h;simp only [Da.l0] at h;revert h)
  | (refine Bz _ _ ⟨_,_,_,_,rfl,by first | with_reducible exact h | exact h⟩ ⟨⟨rfl,rfl,rfl,rfl,trivial⟩,rfl⟩ ?_;omega)
  | fail
theorem AB.ct {k:Nat} {p0:Int} {r0:List (List Int)} {r1:Bool}:AB.f k p0=some (r0,r1)->Ct 44 [.i p0] [.o .l r0,.b r1]:=by
 refine Ax Tryz.func44 rfl rfl rfl rfl ?_;unfold AB.f
 repeat' first
  | refine stp ?_
  | (with_reducible refine spr ?_;rintro ⟨⟩)
  | (unfold AB.j0;split;exact spz)
  | with_reducible refine And.intro ?_ ?_
  | intro h
  | refine rks ?_
  | exact And.intro (Exists.intro _ rfl) rfl
  | (refine BA (λn σ=>∃ x0 x4 x5,σ=[(0,.v (.i x0)),(4,.v (.o .l x4)),(5,.v (.i x5))]/\AB.l0 n x0 x4 x5=some (r0,r1)) _ _ ⟨_,_,_,rfl,by first | with_reducible exact h | exact h⟩ ⟨⟨rfl,rfl,rfl,trivial⟩,rfl⟩ ?_;rintro (_ | _) _ _ ⟨x0,x4,x5,rfl,h⟩;cases h;simp only [AB.l0] at h;revert h)
  | (refine Bz _ _ ⟨_,_,_,rfl,by first | with_reducible exact h | exact h⟩ ⟨⟨rfl,rfl,rfl,trivial⟩,rfl⟩ ?_;omega)
  | (refine BA (λn σ=>∃ x0 x4 x5 x6,σ=[(0,.v (.i x0)),(4,.v (.o .l x4)),(5,.v (.i x5)),(6,.v (.i x6))]/\AB.l1 n x0 x4 x5 x6=some (r0,r1)) _ _ ⟨_,_,_,_,rfl,by first | with_reducible exact h | exact h⟩ ⟨⟨rfl,rfl,rfl,rfl,trivial⟩,rfl⟩ ?_;rintro (_ | _) _ _ ⟨x0,x4,x5,x6,rfl,h⟩;cases h;simp only [AB.l1] at h;revert h)
  | (refine Bz _ _ ⟨_,_,_,_,rfl,by first | with_reducible exact h | exact h⟩ ⟨⟨rfl,rfl,rfl,rfl,trivial⟩,rfl⟩ ?_;omega)
  | fail
theorem CE.ct {k:Nat} {p0:Int} {r0:Int} {r1:Bool}:CE.f k p0=some (r0,r1)->Ct 45 [.i p0] [.i r0,.b r1]:=by
 refine Ax Tryz.func45 rfl rfl rfl rfl ?_;unfold CE.f
 repeat' first
  | refine stp ?_
  | (with_reducible refine spr ?_;rintro ⟨⟩)
  | (unfold CE.j0;split;exact spz)
  | with_reducible refine And.intro ?_ ?_
  | intro h
  | refine rks ?_
  | exact And.intro rfl rfl
  | fail
theorem BJ.ct {p0:Int} {r0:Bool}:BJ.f p0=some r0->Ct 255 [.i p0] [.b r0]:=by
 refine Ax Tryz.func255 rfl rfl rfl rfl ?_;unfold BJ.f
 repeat' first
  | refine stp ?_
  | (with_reducible refine spr ?_;rintro ⟨⟩)
  | with_reducible refine And.intro ?_ ?_
  | intro h
  | refine rks ?_
  | exact (rfl:_=_)
  | fail
theorem CL.ct {p0:Int} {p1:Int} {r0:Bool}:CL.f p0 p1=some r0->Ct 185 [.i p0,.i p1] [.b r0]:=by
 refine Ax Tryz.func185 rfl rfl rfl rfl ?_;unfold CL.f
 repeat' first
  | refine stp ?_
  | (with_reducible refine spr ?_;rintro ⟨⟩)
  | with_reducible refine And.intro ?_ ?_
  | intro h
  | refine RK.call (BJ.ct (by assumption)) rfl rfl rfl ?_
  | refine rks ?_
  | exact (rfl:_=_)
  | fail
theorem Af.ct {k:Nat} {p0:List Int} {r0:Bool}:Af.f k p0=some r0->Ct 109 [.f .i p0] [.b r0]:=by
 refine Ax Tryz.func109 rfl rfl rfl rfl ?_;unfold Af.f
 repeat' first
  | refine stp ?_
  | (with_reducible refine spr ?_;rintro ⟨⟩)
  | with_reducible refine And.intro ?_ ?_
  | intro h
  | refine DB false false (by kernel_rfl) rfl ?_
  | refine RK.call (CL.ct (by assumption)) rfl rfl rfl ?_
  | refine rks ?_
  | exact (rfl:_=_)
  | (refine BA (λn σ=>∃ x0 x3,σ=[(0,.v (.f .i x0)),(3,.v (.i x3))]/\Af.l0 n x0 x3=some r0) _ _ ⟨_,_,rfl,by first | with_reducible exact h | exact h⟩ ⟨⟨rfl,rfl,trivial⟩,rfl⟩ ?_;rintro (_ | _) _ _ ⟨x0,x3,rfl,h⟩;cases h;simp only [Af.l0] at h;revert h)
  | (refine Bz _ _ ⟨_,_,rfl,by first | with_reducible exact h | exact h⟩ ⟨⟨rfl,rfl,trivial⟩,rfl⟩ ?_;omega)
  | fail
theorem AA.ct {k:Nat} {p0:List Int} {r0:Bool}:AA.f k p0=some r0->Ct 56 [.f .i p0] [.b r0]:=by
 refine Ax Tryz.func56 rfl rfl rfl rfl ?_;unfold AA.f
 repeat' first
  | refine stp ?_
  | (with_reducible refine spr ?_;rintro ⟨⟩)
  | with_reducible refine And.intro ?_ ?_
  | intro h
  | refine RK.call (Am.ct (by assumption)) rfl rfl rfl ?_
  | refine RK.call (Af.ct (by assumption)) rfl rfl rfl ?_
  | refine rks ?_
  | exact (rfl:_=_)
  | fail
theorem BT.ct {k:Nat} {p0:List Int} {r0:Bool}:BT.f k p0=some r0->Ct 110 [.f .i p0] [.b r0]:=by
 refine Ax Tryz.func110 rfl rfl rfl rfl ?_;unfold BT.f
 repeat' first
  | refine stp ?_
  | (with_reducible refine spr ?_;rintro ⟨⟩)
  | with_reducible refine And.intro ?_ ?_
  | intro h
  | refine DB false false (by kernel_rfl) rfl ?_
  | refine RK.call (AA.ct (by assumption)) rfl rfl rfl ?_
  | refine rks ?_
  | exact (rfl:_=_)
  | fail
theorem CY.ct {k:Nat} {p0:List Int} {r0:Int} {r1:Bool}:CY.f k p0=some (r0,r1)->Ct 59 [.f .i p0] [.i r0,.b r1]:=by
 refine Ax Tryz.func59 rfl rfl rfl rfl ?_;unfold CY.f
 repeat' first
  | refine stp ?_
  | (with_reducible refine spr ?_;rintro ⟨⟩)
  | with_reducible refine And.intro ?_ ?_
  | intro h
  | refine DB true false (by kernel_rfl) rfl ?_
  | refine RK.call (BT.ct (by assumption)) rfl rfl rfl ?_
  | refine rks ?_
  | exact And.intro rfl rfl
  | fail
theorem AJ.ct {k:Nat} {p0:Int} {r0:List (List Int)} {r1:Bool}:AJ.f k p0=some (r0,r1)->Ct 46 [.i p0] [.o .l r0,.b r1]:=by
 refine Ax Tryz.func46 rfl rfl rfl rfl ?_;unfold AJ.f
 repeat' first
  | refine stp ?_
  | (with_reducible refine spr ?_;rintro ⟨⟩)
  | with_reducible refine And.intro ?_ ?_
  | intro h
  | refine RK.call (AB.ct (by assumption)) rfl rfl rfl ?_
  | refine RK.call (CY.ct (by assumption)) rfl rfl rfl ?_
  | refine rks ?_
  | exact And.intro (Exists.intro _ rfl) rfl
  | (refine BA (λn σ=>∃ x6 x20 x21 x22,σ=[(6,.v (.o .l x6)),(20,.a 4),(21,.v (.i x21)),(22,.v (.i x22)),(4,.v (.o .l x20))]/\AJ.l0 n x6 x20 x21 x22=some (r0,r1)) _ _ ⟨_,_,_,_,rfl,by first | with_reducible exact h | exact h⟩ ⟨⟨rfl,rfl,rfl,rfl,rfl,trivial⟩,rfl⟩ ?_;rintro (_ | _) _ _ ⟨x6,x20,x21,x22,rfl,h⟩;cases h;simp only [AJ.l0] at h;revert h)
  | (refine Bz _ _ ⟨_,_,_,_,rfl,by first | with_reducible exact h | exact h⟩ ⟨⟨rfl,rfl,rfl,rfl,rfl,trivial⟩,rfl⟩ ?_;omega)
  | (refine BA (λn σ=>∃ x6 x20 x21 x22 x8 x9 x11,σ=[(6,.v (.o .l x6)),(20,.a 4),(21,.v (.i x21)),(22,.v (.i x22)),(8,.v (.f .i x8)),(9,.v (.i x9)),(11,.v (.i x11)),(4,.v (.o .l x20))]/\AJ.l1 n x6 x20 x21 x22 x8 x9 x11=some (r0,r1)) _ _ ⟨_,_,_,_,_,_,_,rfl,by first | with_reducible exact h | exact h⟩ ⟨⟨rfl,rfl,rfl,rfl,rfl,rfl,rfl,rfl,trivial⟩,rfl⟩ ?_;rintro (_ | _) _ _ ⟨x6,x20,x21,x22,x8,x9,x11,rfl,h⟩;cases h;simp only [AJ.l1] at h;revert h)
  | (refine Bz _ _ ⟨_,_,_,_,_,_,_,rfl,by first | with_reducible exact h | exact h⟩ ⟨⟨rfl,rfl,rfl,rfl,rfl,rfl,rfl,rfl,trivial⟩,rfl⟩ ?_;omega)
  | fail
theorem B8.ct {k:Nat} {p0:List Int} {r0:Int}:B8.f k p0=some r0->Ct 105 [.f .i p0] [.i r0]:=by
 refine Ax Tryz.func105 rfl rfl rfl rfl ?_;unfold B8.f
 repeat' first
  | refine stp ?_
  | (with_reducible refine spr ?_;rintro ⟨⟩)
  | with_reducible refine And.intro ?_ ?_
  | intro h
  | refine rks ?_
  | exact (rfl:_=_)
  | (refine BA (λn σ=>∃ x3 x6 x7 x8,σ=[(3,.v (.i x3)),(6,.v (.f .i x6)),(7,.v (.i x7)),(8,.v (.i x8))]/\B8.l0 n x3 x6 x7 x8=some r0) _ _ ⟨_,_,_,_,rfl,by first | with_reducible exact h | exact h⟩ ⟨⟨rfl,rfl,rfl,rfl,trivial⟩,rfl⟩ ?_;rintro (_ | _) _ _ ⟨x3,x6,x7,x8,rfl,h⟩;cases h;simp only [B8.l0] at h;revert h)
  | (refine Bz _ _ ⟨_,_,_,_,rfl,by first | with_reducible exact h | exact h⟩ ⟨⟨rfl,rfl,rfl,rfl,trivial⟩,rfl⟩ ?_;omega)
  | fail
theorem DU.ct {k:Nat} {p0:List Int} {r0:Int}:DU.f k p0=some r0->Ct 111 [.f .i p0] [.i r0]:=by
 refine Ax Tryz.func111 rfl rfl rfl rfl ?_;unfold DU.f
 repeat' first
  | refine stp ?_
  | (with_reducible refine spr ?_;rintro ⟨⟩)
  | with_reducible refine And.intro ?_ ?_
  | intro h
  | refine DB false false (by kernel_rfl) rfl ?_
  | refine RK.call (B8.ct (by assumption)) rfl rfl rfl ?_
  | refine rks ?_
  | exact (rfl:_=_)
  | fail
theorem CI.ct {k:Nat} {p0:List Int} {r0:Bool}:CI.f k p0=some r0->Ct 98 [.f .i p0] [.b r0]:=by
 refine Ax Tryz.func98 rfl rfl rfl rfl ?_;unfold CI.f
 repeat' first
  | refine stp ?_
  | (with_reducible refine spr ?_;rintro ⟨⟩)
  | with_reducible refine And.intro ?_ ?_
  | intro h
  | refine RK.call (DU.ct (by assumption)) rfl rfl rfl ?_
  | refine rks ?_
  | exact (rfl:_=_)
  | fail
theorem Cj.ct {k:Nat} {p0:List Int} {r0:Int} {r1:Int} {r2:Bool}:Cj.f k p0=some (r0,r1,r2)->Ct 65 [.f .i p0] [.i r0,.i r1,.b r2]:=by
 refine Ax Tryz.func65 rfl rfl rfl rfl ?_;unfold Cj.f
 repeat' first
  | refine stp ?_
  | (with_reducible refine spr ?_;rintro ⟨⟩)
  | with_reducible refine And.intro ?_ ?_
  | intro h
  | refine RK.call (AA.ct (by assumption)) rfl rfl rfl ?_
  | refine RK.call (DU.ct (by assumption)) rfl rfl rfl ?_
  | refine RK.call (B8.ct (by assumption)) rfl rfl rfl ?_
  | refine rks ?_
  | exact And.intro rfl (And.intro rfl rfl)
  | fail
theorem EB.ct {k:Nat} {p0:List Int} {p1:Int} {r0:Bool}:EB.f k p0 p1=some r0->Ct 99 [.f .i p0,.i p1] [.b r0]:=by
 refine Ax Tryz.func99 rfl rfl rfl rfl ?_;unfold EB.f
 repeat' first
  | refine stp ?_
  | (with_reducible refine spr ?_;rintro ⟨⟩)
  | with_reducible refine And.intro ?_ ?_
  | intro h
  | refine RK.call (Cj.ct (by assumption)) rfl rfl rfl ?_
  | refine rks ?_
  | exact (rfl:_=_)
  | fail
theorem Bn.ct {k:Nat} {p0:List Int} {p1:Int} {r0:Int} {r1:Bool}:Bn.f k p0 p1=some (r0,r1)->Ct 48 [.f .i p0,.i p1] [.i r0,.b r1]:=by
 refine Ax Tryz.func48 rfl rfl rfl rfl ?_;unfold Bn.f
 repeat' first
  | refine stp ?_
  | (with_reducible refine spr ?_;rintro ⟨⟩)
  | (unfold Bn.j0;split;exact spz)
  | with_reducible refine And.intro ?_ ?_
  | intro h
  | refine RK.call (AA.ct (by assumption)) rfl rfl rfl ?_
  | refine RK.call (EB.ct (by assumption)) rfl rfl rfl ?_
  | refine rks ?_
  | exact And.intro rfl rfl
  | (refine BA (λn σ=>∃ x0 x1 x6,σ=[(0,.v (.f .i x0)),(1,.v (.i x1)),(6,.v (.i x6))]/\Bn.l0 n x0 x1 x6=some (r0,r1)) _ _ ⟨_,_,_,rfl,by first | with_reducible exact h | exact h⟩ ⟨⟨rfl,rfl,rfl,trivial⟩,rfl⟩ ?_;rintro (_ | _) _ _ ⟨x0,x1,x6,rfl,h⟩;cases h;simp only [Bn.l0] at h;revert h)
  | (refine Bz _ _ ⟨_,_,_,rfl,by first | with_reducible exact h | exact h⟩ ⟨⟨rfl,rfl,rfl,trivial⟩,rfl⟩ ?_;omega)
  | fail
end
end Go.Proofs.YtlgojeodceiglaaGreatDoor.PFnExactExecute
