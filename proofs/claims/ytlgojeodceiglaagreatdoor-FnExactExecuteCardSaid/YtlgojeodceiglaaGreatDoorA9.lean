/- Execute: a part of what is shown of the program's Execute and the reference's. -/
import Derived.Test.YtlgojeodceiglaaGreatDoorA7
namespace Go.Proofs.YtlgojeodceiglaaGreatDoor.PFnExactExecute
open Go.RowKit Go.Proofs.YtlgojeodceiglaaGreatDoorW.PrintWords Go.Proofs.YtlgojeodceiglaaGreatDoorW.PrintLast Go.Proofs.YtlgojeodceiglaaGreatDoorW.PrintMore
attribute [local go_sem] WO WQ WS WT WM WN WP WR
set_option linter.unusedVariables false
set_option linter.unusedSimpArgs false
set_option maxRecDepth 100000
set_option maxHeartbeats 0
section
set_option maxHeartbeats 0
set_option maxRecDepth 100000
local instance (priority:=high) {nt:Nat} {Q:Exit->St->Prop} {σ:St}:Go (awp nt (.region 13 ops13.toArray false) Q σ) (MPg nt Q σ):=⟨id⟩
theorem Aq.cp {k:Nat} {l:List Int} {s1 s2:ByteArray} {r:ByteArray}:Aq.ro k l s1 s2=some r->Cp 19 l [.s s1,.s s2] [.s r]:=by
 refine TP Tryz.func19 rfl rfl rfl ?_;unfold Aq.ro
 repeat' first
  | with_reducible exact spz
  | with_reducible refine spn λ_=>?_
  | with_reducible refine spt ?_
  | with_reducible refine spf ?_
  | with_reducible refine spc ?_
  | with_reducible refine spe ?_
  | with_reducible refine spd (λ_=>?_) λ_=>?_
  | with_reducible refine spq (λ_=>?_) λ_=>?_
  | with_reducible refine spm (λ_=>?_) λ_=>?_
  | with_reducible refine spi (λ_=>?_) λ_=>?_
  | with_reducible refine sps ?_
  | with_reducible refine spa (by assumption) ?_
  | with_reducible refine spb λ_ _=>?_
  | (with_reducible refine spr ?_;rintro ⟨⟩)
  | intro h
  | refine Go.go ?_
  | refine VF rfl rfl rfl rfl ?_
  | refine Si rfl ?_
  | refine RK.call (CD.ct (by assumption)) rfl rfl rfl ?_
  | refine RK.call (CZ.ct (by assumption)) rfl rfl rfl ?_
  | refine RK.call (DV.ct (by assumption)) rfl rfl rfl ?_
  | refine RK.call (Fk.ct (by assumption)) rfl rfl rfl ?_
  | refine RK.call (DE.ct (by assumption)) rfl rfl rfl ?_
  | refine RK.call (Cz.ct (by assumption)) rfl rfl rfl ?_
  | refine RK.call (DF.ct (by assumption)) rfl rfl rfl ?_
  | refine RK.call (Bi.ct (by assumption)) rfl rfl rfl ?_
  | refine RK.call (C8.ct (by assumption)) rfl rfl rfl ?_
  | refine RK.call (Al.ct (by assumption)) rfl rfl rfl ?_
  | refine RK.call (Am.ct (by assumption)) rfl rfl rfl ?_
  | refine RK.call (AB.ct (by assumption)) rfl rfl rfl ?_
  | refine RK.call (Da.ct (by assumption)) rfl rfl rfl ?_
  | refine RK.call (CE.ct (by assumption)) rfl rfl rfl ?_
  | refine RK.call (AJ.ct (by assumption)) rfl rfl rfl ?_
  | refine RK.call (AL.ct (by assumption)) rfl rfl rfl ?_
  | refine RK.call (Bn.ct (by assumption)) rfl rfl rfl ?_
  | refine RK.call (DC.ct (by assumption)) rfl rfl rfl ?_
  | refine RK.call (DR.ct (by assumption)) rfl rfl rfl ?_
  | refine RK.fz 12 rfl ?_
  | refine RK.gg rfl rfl ?_
  | refine RK.gx rfl rfl ?_
  | refine RK.pk rfl rfl rfl ?_
  | refine RK.bk rfl rfl ?_
  | refine RK.nil ?_
  | refine RK.bk' rfl rfl (by (try simp only [Mp,true_and,and_true,IN,It,IS,OF,List.length_set,IT,No,bsz] at *);omega) ?_
  | exact (rfl:_=_)
  | fail

end
end Go.Proofs.YtlgojeodceiglaaGreatDoor.PFnExactExecute
