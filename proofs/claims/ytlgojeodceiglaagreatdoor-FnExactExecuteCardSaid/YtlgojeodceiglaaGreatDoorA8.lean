/- Execute: a part of what is shown of the program's Execute and the reference's. -/
import Derived.Test.YtlgojeodceiglaaGreatDoorA7
namespace Go.Proofs.YtlgojeodceiglaaGreatDoor.PFnExactExecute
open Go.RowKit Go.Proofs.YtlgojeodceiglaaGreatDoorW.PrintWords Go.Proofs.YtlgojeodceiglaaGreatDoorW.PrintLast Go.Proofs.YtlgojeodceiglaaGreatDoorW.PrintMore
attribute [local go_sem] WO WQ WS WT WM WN WP WR
set_option linter.unusedVariables false
set_option linter.unusedSimpArgs false
set_option maxRecDepth 100000
set_option maxHeartbeats 0
section
set_option maxHeartbeats 0
theorem AO.cp {k:Nat} {l:List Int} {s1:ByteArray} {r:ByteArray}:AO.ro k l s1=some r->Cp 20 l [.s s1] [.s r]:=by
 refine TP Tryz.func20 rfl rfl rfl ?_;unfold AO.ro
 repeat' first
  | with_reducible exact spz
  | with_reducible refine spn λ_=>?_
  | with_reducible refine spt ?_
  | with_reducible refine spf ?_
  | with_reducible refine spc ?_
  | with_reducible refine spe ?_
  | with_reducible refine spd (λ_=>?_) λ_=>?_
  | with_reducible refine spq (λ_=>?_) λ_=>?_
  | with_reducible refine spm (λ_=>?_) λ_=>?_
  | with_reducible refine spi (λ_=>?_) λ_=>?_
  | with_reducible refine sps ?_
  | with_reducible refine spa (by assumption) ?_
  | with_reducible refine spb λ_ _=>?_
  | (with_reducible refine spr ?_;rintro ⟨⟩)
  | intro h
  | refine Go.go ?_
  | refine Si rfl ?_
  | refine RK.call (Cy.ct (by assumption)) rfl rfl rfl ?_
  | refine RK.call (CV.ct (by assumption)) rfl rfl rfl ?_
  | refine RK.call (C8.ct (by assumption)) rfl rfl rfl ?_
  | refine RK.call (Ei.ct (by assumption)) rfl rfl rfl ?_
  | refine RK.call (Cz.ct (by assumption)) rfl rfl rfl ?_
  | refine RK.call (AQ.ct (by assumption)) rfl rfl rfl ?_
  | refine RK.call (AG.ct (by assumption)) rfl rfl rfl ?_
  | refine RK.call (AA.ct (by assumption)) rfl rfl rfl ?_
  | refine RK.call (DN.ct (by assumption)) rfl rfl rfl ?_
  | refine RK.call (EF.ct (by assumption)) rfl rfl rfl ?_
  | refine RK.call (CZ.ct (by assumption)) rfl rfl rfl ?_
  | refine RK.call (CY.ct (by assumption)) rfl rfl rfl ?_
  | refine RK.call (EE.ct (by assumption)) rfl rfl rfl ?_
  | refine RK.call (ED.ct (by assumption)) rfl rfl rfl ?_
  | refine RK.call (BM.ct (by assumption)) rfl rfl rfl ?_
  | refine RK.call (D5.ct (by assumption)) rfl rfl rfl ?_
  | refine RK.call (EC.ct (by assumption)) rfl rfl rfl ?_
  | refine RK.call (Cj.ct (by assumption)) rfl rfl rfl ?_
  | refine RK.call (Fk.ct (by assumption)) rfl rfl rfl ?_
  | refine RK.call (D2.ct (by assumption)) rfl rfl rfl ?_
  | refine RK.call (Ba.ct (by assumption)) rfl rfl rfl ?_
  | refine RK.call (Eh.ct (by assumption)) rfl rfl rfl ?_
  | refine RK.call (Cw.ct (by assumption)) rfl rfl rfl ?_
  | refine RK.call (BW.ct (by assumption)) rfl rfl rfl ?_
  | refine RK.call (Cv.ct (by assumption)) rfl rfl rfl ?_
  | refine RK.call (BS.ct (by assumption)) rfl rfl rfl ?_
  | refine RK.call (BL.ct (by assumption)) rfl rfl rfl ?_
  | refine RK.call (AY.ct (by assumption)) rfl rfl rfl ?_
  | refine RK.call (AN.ct (by assumption)) rfl rfl rfl ?_
  | refine RK.call (Bw.ct (by assumption)) rfl rfl rfl ?_
  | refine RK.call (Ck.ct (by assumption)) rfl rfl rfl ?_
  | refine RK.call (Dq.ct (by assumption)) rfl rfl rfl ?_
  | refine RK.gg rfl rfl ?_
  | refine RK.gx rfl rfl ?_
  | refine RK.pk rfl rfl rfl ?_
  | refine RK.bk rfl rfl ?_
  | refine RK.nil ?_
  | refine RK.bk' rfl rfl (by (try simp only [Mp,true_and,and_true,IN,It,IS,OF,List.length_set,IT,No,bsz] at *);omega) ?_
  | exact (rfl:_=_)
  | fail

end
end Go.Proofs.YtlgojeodceiglaaGreatDoor.PFnExactExecute
