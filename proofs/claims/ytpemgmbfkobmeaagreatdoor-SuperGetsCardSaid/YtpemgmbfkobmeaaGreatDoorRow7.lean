/- 'solderlaw16.SuperGets' returns true for every input, and its input reads behind the call as it did: of any bytes. -/
import Derived.Test.YtpemgmbfkobmeaaGreatDoorRow7l
import Derived.Test.YtpemgmbfkobmeaaGreatDoorRowF7
import Derived.Test.YtpemgmbfkobmeaaGreatDoorTie
import Derived.Test.YtpemgmbfkobmeaaGreatDoorCards
namespace Go.Proofs.YtpemgmbfkobmeaaGreatDoor
open Go Go.Proofs Go.ChangeShapes Go.WideShapes Go.ChangeAt Go.RowKit Go.Joins
open Go.ChangeMaps (open_string shut_string)
set_option maxRecDepth 100000
set_option linter.unusedVariables false
theorem superGets_holds : Rows.SuperGetsSaid :=
  OpenClaim.holds_of_wide 7 Tryz.f7 rfl rfl rfl rfl rfl rfl rfl ⟨rfl, rfl, rfl, rfl, rfl⟩ rfl rfl rfl rfl rfl (by kernel_rfl) Tryz.func7 superGets_facts
    (of_decide_eq_true (by kernel_rfl)) (by unfold Func.isWrapper; first | (rw [if_pos (by decide +kernel)]; kernel_rfl) | (rw [if_neg (by decide +kernel)]; exact ⟨rfl, rfl⟩))
    (fun os started H enc _ => superGets_lifted os started H enc)
theorem superGets_card : Rows.SuperGetsCardSaid :=
  Claim7.holds_tied_plain_at .later [] [.handle] true (true, "608efcf2c1d02299f1ffb456ca080cf3b5b88818b12168bb4ec7188d1fcb9ed7") true
    superGets_holds (fun _ h => by cases h) (by kernel_rfl) (fun _ h => by cases h) superGets_row_tie rfl ⟨rfl, rfl⟩ rowMain rfl
    (fun f fn hf hfn => by
      obtain rfl : f = 7 := Option.some.inj ((show Tryz.prog.funcNamed "solder/solderlaw16.SuperGets" = some 7 by kernel_rfl).symm.trans hf) |>.symm
      obtain rfl : fn = Tryz.f7 := (Option.some.inj (Tryz.func7.symm.trans hfn)).symm
      refine ⟨by kernel_rfl, fun j t ht => ?_⟩
      have hm : t ∈ [9] := param_mem Tryz.params7 rfl ht
      simp only [List.mem_cons, List.not_mem_nil, or_false] at hm
      rcases hm with rfl
      · exact (show Tryz.prog.wantsStandIn 9 = false by kernel_rfl))
    superGets_goes
#print axioms superGets_card
end Go.Proofs.YtpemgmbfkobmeaaGreatDoor
