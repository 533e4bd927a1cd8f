/- 'solderlaw18.TableNone': its walk, lifted: of any volume, any extent and any entry. -/
import Derived.Test.YtpemgmbfkobmeaaGreatDoorA2
import Derived.Test.YtpemgmbfkobmeaaGreatDoorA6
namespace Go.Proofs.YtpemgmbfkobmeaaGreatDoor
open Go Go.Proofs Go.ChangeShapes Go.WideShapes Go.ChangeAt Go.RowKit Go.Joins
open Go.ChangeMaps (open_string shut_string)
set_option maxRecDepth 100000
set_option linter.unusedVariables false
theorem tableNone_lifted (os : Os) (started : os.Started) (H : Type) (enc : TypeId × Value → H) :
    ReturnsInHanded {} Tryz.checked os 9 .any (fun w args => (Rows.tableNoneSpec.pre enc Tryz.prog Tryz.f9 [] false w args ∧ laidMetH Tryz.prog Rows.tableNoneRow.laid w) ∧ sizedMet enc Tryz.prog Tryz.f9 (OpenSpec.ofChange Rows.tableNoneSpec) false w args)
      (Rows.tableNoneSpec.post enc Tryz.prog Tryz.f9 false true false false) := by
  refine row_lifted os started H enc rfl (by kernel_rfl) Tryz.func9 (fun ds h => by
      rw [show Tryz.f9.params.size = 3 from by rw [Tryz.params9]; rfl] at h
      match ds, h with
      | [d0, d1, d2], _ => rfl) rfl (by rw [Tryz.params9]; exact of_decide_eq_true (by kernel_rfl))
    (ChangeSpec.witness_at (enc := enc) (C := Tryz.checked) (os := os) (X := fun w _ => laidMetH Tryz.prog Rows.tableNoneRow.laid w) false (laidWorld os) #[.agg #[.int .i64 0, .int .i64 0, .int .i64 0], .int .i64 0, .agg #[.int .i64 0, .int .i64 0, .int .i64 0]] 8 rfl (by kernel_rfl) (by kernel_rfl) (by kernel_rfl) (by kernel_rfl) (by kernel_rfl) (laidWorld_met os _)) ?_
  intro W base args ds p hval hA hL
  rw [Tryz.params9] at hA hval
  obtain ⟨v0, vs0, d0, ds0, p0, q0, hargs, rfl, rfl, h0, r0⟩ := trodAll_cons hA
  obtain ⟨v1, vs1, d1, ds1, p1, q1, rfl, rfl, rfl, h1, r1⟩ := trodAll_cons r0
  obtain ⟨v2, vs2, d2, ds2, p2, q2, rfl, rfl, rfl, h2, r2⟩ := trodAll_cons r1
  obtain ⟨rfl, rfl, rfl⟩ := trodAll_nil r2
  obtain rfl : args = #[v0, v1, v2] := by cases args; simp_all
  have rd3 : Sol.RD Tryz.prog 3 [.int] := Sol.RD_int Tryz.underlying3
  have rdC : Sol.RD Tryz.prog 50 [.int, .int, .int] := Sol.RD_struct Tryz.underlying50 (by kernel_rfl)
    (.cons (k1 := [.int]) (k2 := [.int, .int]) rfl rd3 (by kernel_rfl) (.cons (k1 := [.int]) (k2 := [.int]) rfl rd3 (by kernel_rfl) (.cons (k1 := [.int]) (k2 := []) rfl rd3 (by kernel_rfl) .nil)))
  have rdV : Sol.RD Tryz.prog 89 [.int, .int] := Sol.RD_struct Tryz.underlying89 (by kernel_rfl)
    (.cons (k1 := [.int]) (k2 := [.int]) rfl rd3 (by kernel_rfl) (.cons (k1 := [.int]) (k2 := []) rfl rd3 (by kernel_rfl) .nil))
  have rdE : Sol.RD Tryz.prog 91 [.int, .int, .int] := Sol.RD_struct Tryz.underlying91 (by kernel_rfl)
    (.cons (k1 := [.int, .int]) (k2 := [.int]) rfl rdV (by kernel_rfl) (.cons (k1 := [.int]) (k2 := []) rfl rd3 (by kernel_rfl) .nil))
  obtain ⟨us, rfl, hu⟩ := Sol.open_flat Tryz.underlying50 rdC (hval 0 50 v0 rfl rfl) h0
  obtain ⟨_, _, rfl, ⟨x, rfl, _, _⟩, hu1⟩ := Sol.fits_cons hu
  obtain ⟨_, _, rfl, ⟨y, rfl, _, _⟩, hu2⟩ := Sol.fits_cons hu1
  obtain ⟨_, _, rfl, ⟨z, rfl, _, _⟩, hu3⟩ := Sol.fits_cons hu2
  obtain rfl := Sol.fits_nil hu3
  obtain ⟨n, rfl, rfl, rfl, wn⟩ := open_int Tryz.underlying3 (hval 1 3 v1 rfl rfl) h1
  obtain ⟨vs, rfl, hf⟩ := Sol.open_flat Tryz.underlying91 rdE (hval 2 91 v2 rfl rfl) h2
  obtain ⟨_, _, rfl, ⟨a, rfl, _, _⟩, hf1⟩ := Sol.fits_cons hf
  obtain ⟨_, _, rfl, ⟨b, rfl, _, _⟩, hf2⟩ := Sol.fits_cons hf1
  obtain ⟨_, _, rfl, ⟨s, rfl, _, _⟩, hf3⟩ := Sol.fits_cons hf2
  obtain rfl := Sol.fits_nil hf3
  exact Sol.Fn.below (fun F => Sol.law18_TableNone ⟨x, y, z⟩ n ⟨a, b, s⟩ F) W
theorem tableNone_goes : false = Rows.tableNoneRow.goesBy Tryz.pinned.checked.prog := by kernel_rfl
end Go.Proofs.YtpemgmbfkobmeaaGreatDoor
