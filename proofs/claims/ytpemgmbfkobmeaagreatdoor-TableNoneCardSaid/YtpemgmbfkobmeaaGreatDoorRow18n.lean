/- 'solderlaw18.TableNone' returns true for every input, and its input reads behind the call as it did: of any volume, any extent and any entry. -/
import Derived.Test.YtpemgmbfkobmeaaGreatDoorRow18nl
import Derived.Test.YtpemgmbfkobmeaaGreatDoorRowF18n
import Derived.Test.YtpemgmbfkobmeaaGreatDoorTie
import Derived.Test.YtpemgmbfkobmeaaGreatDoorCards
namespace Go.Proofs.YtpemgmbfkobmeaaGreatDoor
open Go Go.Proofs Go.ChangeShapes Go.WideShapes Go.ChangeAt Go.RowKit Go.Joins
open Go.ChangeMaps (open_string shut_string)
set_option maxRecDepth 100000
set_option linter.unusedVariables false
theorem tableNone_holds : Rows.TableNoneSaid :=
  OpenClaim.holds_of_wide 9 Tryz.f9 rfl rfl rfl rfl rfl rfl rfl ⟨rfl, rfl, rfl, rfl, rfl⟩ rfl rfl rfl rfl rfl (by kernel_rfl) Tryz.func9 tableNone_facts
    (of_decide_eq_true (by kernel_rfl)) (by unfold Func.isWrapper; first | (rw [if_pos (by decide +kernel)]; kernel_rfl) | (rw [if_neg (by decide +kernel)]; exact ⟨rfl, rfl⟩))
    (fun os started H enc _ => tableNone_lifted os started H enc)
theorem tableNone_card : Rows.TableNoneCardSaid :=
  Claim7.holds_tied_plain_at .later [] [.handle] true (true, "608efcf2c1d02299f1ffb456ca080cf3b5b88818b12168bb4ec7188d1fcb9ed7") true
    tableNone_holds (fun _ h => by cases h) (by kernel_rfl) (fun _ h => by cases h) tableNone_row_tie rfl ⟨rfl, rfl⟩ rowMain rfl
    (fun f fn hf hfn => by
      obtain rfl : f = 9 := Option.some.inj ((show Tryz.prog.funcNamed "solder/solderlaw18.TableNone" = some 9 by kernel_rfl).symm.trans hf) |>.symm
      obtain rfl : fn = Tryz.f9 := (Option.some.inj (Tryz.func9.symm.trans hfn)).symm
      refine ⟨by kernel_rfl, fun j t ht => ?_⟩
      have hm : t ∈ [50, 3, 91] := param_mem Tryz.params9 rfl ht
      simp only [List.mem_cons, List.not_mem_nil, or_false] at hm
      rcases hm with rfl | rfl | rfl
      · exact (show Tryz.prog.wantsStandIn 50 = false by kernel_rfl)
      · exact (show Tryz.prog.wantsStandIn 3 = false by kernel_rfl)
      · exact (show Tryz.prog.wantsStandIn 91 = false by kernel_rfl))
    tableNone_goes
#print axioms tableNone_card
end Go.Proofs.YtpemgmbfkobmeaaGreatDoor
