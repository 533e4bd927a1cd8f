/- 'solderlaw16.SuperGets': its walk, lifted: of any bytes. -/
import Derived.Test.YtpemgmbfkobmeaaGreatDoorA2
import Derived.Test.YtpemgmbfkobmeaaGreatDoorA6
namespace Go.Proofs.YtpemgmbfkobmeaaGreatDoor
open Go Go.Proofs Go.ChangeShapes Go.WideShapes Go.ChangeAt Go.RowKit Go.Joins
open Go.ChangeMaps (open_string shut_string)
set_option maxRecDepth 100000
set_option linter.unusedVariables false
theorem superGets_lifted (os : Os) (started : os.Started) (H : Type) (enc : TypeId × Value → H) :
    ReturnsInHanded {} Tryz.checked os 7 .any (fun w args => (Rows.superGetsSpec.pre enc Tryz.prog Tryz.f7 [] false w args ∧ laidMetH Tryz.prog Rows.superGetsRow.laid w) ∧ sizedMet enc Tryz.prog Tryz.f7 (OpenSpec.ofChange Rows.superGetsSpec) false w args)
      (Rows.superGetsSpec.post enc Tryz.prog Tryz.f7 false true false false) := by
  refine row_lifted os started H enc rfl (by kernel_rfl) Tryz.func7 (fun ds h => by
      rw [show Tryz.f7.params.size = 1 from by rw [Tryz.params7]; rfl] at h
      match ds, h with
      | [d0], _ => rfl) rfl (by rw [Tryz.params7]; exact of_decide_eq_true (by kernel_rfl))
    (ChangeSpec.witness_at (enc := enc) (C := Tryz.checked) (os := os) (X := fun w _ => laidMetH Tryz.prog Rows.superGetsRow.laid w) false (laidWorld os) #[.string ByteArray.empty] 8 rfl (by kernel_rfl) (by kernel_rfl) (by kernel_rfl) (by kernel_rfl) (by kernel_rfl) (laidWorld_met os _)) ?_
  intro W base args ds p hval hA hL
  rw [Tryz.params7] at hA hval
  obtain ⟨v0, vs0, d0, ds0, p0, q0, hargs, rfl, rfl, h0, r0⟩ := trodAll_cons hA
  obtain ⟨rfl, rfl, rfl⟩ := trodAll_nil r0
  obtain rfl : args = #[v0] := by cases args; simp_all
  obtain ⟨s, rfl, rfl, rfl, ws⟩ := open_string Tryz.underlying9 (hval 0 9 v0 rfl rfl) h0
  exact Sol.Fn.below (fun F => Sol.law16_SuperGets s.data.toList F) W
theorem superGets_goes : false = Rows.superGetsRow.goesBy Tryz.pinned.checked.prog := by kernel_rfl
end Go.Proofs.YtpemgmbfkobmeaaGreatDoor
