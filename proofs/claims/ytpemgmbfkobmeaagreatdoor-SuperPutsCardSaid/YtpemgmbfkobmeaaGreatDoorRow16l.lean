/- 'solderlaw16.SuperPuts': its walk, lifted: of anything that a node may know of itself. -/
import Derived.Test.YtpemgmbfkobmeaaGreatDoorA2
import Derived.Test.YtpemgmbfkobmeaaGreatDoorA6
namespace Go.Proofs.YtpemgmbfkobmeaaGreatDoor
open Go Go.Proofs Go.ChangeShapes Go.WideShapes Go.ChangeAt Go.RowKit Go.Joins
open Go.ChangeMaps (open_string shut_string)
set_option maxRecDepth 100000
set_option linter.unusedVariables false
theorem superPuts_lifted (os : Os) (started : os.Started) (H : Type) (enc : TypeId × Value → H) :
    ReturnsInHanded {} Tryz.checked os 6 .any (fun w args => (Rows.superPutsSpec.pre enc Tryz.prog Tryz.f6 [] false w args ∧ laidMetH Tryz.prog Rows.superPutsRow.laid w) ∧ sizedMet enc Tryz.prog Tryz.f6 (OpenSpec.ofChange Rows.superPutsSpec) false w args)
      (Rows.superPutsSpec.post enc Tryz.prog Tryz.f6 false true false false) := by
  refine row_lifted os started H enc rfl (by kernel_rfl) Tryz.func6 (fun ds h => by
      rw [show Tryz.f6.params.size = 1 from by rw [Tryz.params6]; rfl] at h
      match ds, h with
      | [d0], _ => rfl) rfl (by rw [Tryz.params6]; exact of_decide_eq_true (by kernel_rfl))
    (ChangeSpec.witness_at (enc := enc) (C := Tryz.checked) (os := os) (X := fun w _ => laidMetH Tryz.prog Rows.superPutsRow.laid w) false (laidWorld os) #[.agg #[.int .i64 0, .int .i64 0, .int .i64 0, .int .i64 0, .int .i64 0, .int .i64 0, .int .i64 0]] 8 rfl (by kernel_rfl) (by kernel_rfl) (by kernel_rfl) (by kernel_rfl) (by kernel_rfl) (laidWorld_met os _)) ?_
  intro W base args ds p hval hA hL
  rw [Tryz.params6] at hA hval
  obtain ⟨v0, vs0, d0, ds0, p0, q0, hargs, rfl, rfl, h0, r0⟩ := trodAll_cons hA
  obtain ⟨rfl, rfl, rfl⟩ := trodAll_nil r0
  obtain rfl : args = #[v0] := by cases args; simp_all
  have rd3 : Sol.RD Tryz.prog 3 [.int] := Sol.RD_int Tryz.underlying3
  have rdC : Sol.RD Tryz.prog 50 [.int, .int, .int] := Sol.RD_struct Tryz.underlying50 (by kernel_rfl)
    (.cons (k1 := [.int]) (k2 := [.int, .int]) rfl rd3 (by kernel_rfl) (.cons (k1 := [.int]) (k2 := [.int]) rfl rd3 (by kernel_rfl) (.cons (k1 := [.int]) (k2 := []) rfl rd3 (by kernel_rfl) .nil)))
  have rdS : Sol.RD Tryz.prog 63 [.int, .int, .int, .int, .int, .int, .int] := Sol.RD_struct Tryz.underlying63 (by kernel_rfl)
    (.cons (k1 := [.int]) (k2 := [.int, .int, .int, .int, .int, .int]) rfl rd3 (by kernel_rfl) (.cons (k1 := [.int]) (k2 := [.int, .int, .int, .int, .int]) rfl rd3 (by kernel_rfl) (.cons (k1 := [.int]) (k2 := [.int, .int, .int, .int]) rfl rd3 (by kernel_rfl)
      (.cons (k1 := [.int]) (k2 := [.int, .int, .int]) rfl rd3 (by kernel_rfl) (.cons (k1 := [.int, .int, .int]) (k2 := []) rfl rdC (by kernel_rfl) .nil)))))
  obtain ⟨vs, rfl, hf⟩ := Sol.open_flat Tryz.underlying63 rdS (hval 0 63 v0 rfl rfl) h0
  obtain ⟨_, _, rfl, ⟨no, rfl, _, _⟩, hf1⟩ := Sol.fits_cons hf
  obtain ⟨_, _, rfl, ⟨ro, rfl, _, _⟩, hf2⟩ := Sol.fits_cons hf1
  obtain ⟨_, _, rfl, ⟨bo, rfl, _, _⟩, hf3⟩ := Sol.fits_cons hf2
  obtain ⟨_, _, rfl, ⟨cu, rfl, _, _⟩, hf4⟩ := Sol.fits_cons hf3
  obtain ⟨_, _, rfl, ⟨E, rfl, _, _⟩, hf5⟩ := Sol.fits_cons hf4
  obtain ⟨_, _, rfl, ⟨S', rfl, _, _⟩, hf6⟩ := Sol.fits_cons hf5
  obtain ⟨_, _, rfl, ⟨L', rfl, _, _⟩, hf7⟩ := Sol.fits_cons hf6
  obtain rfl := Sol.fits_nil hf7
  exact Sol.Fn.below (fun F => Sol.law16_SuperPuts ⟨no, ro, bo, cu, ⟨E, S', L'⟩⟩ F) W
theorem superPuts_goes : false = Rows.superPutsRow.goesBy Tryz.pinned.checked.prog := by kernel_rfl
end Go.Proofs.YtpemgmbfkobmeaaGreatDoor
