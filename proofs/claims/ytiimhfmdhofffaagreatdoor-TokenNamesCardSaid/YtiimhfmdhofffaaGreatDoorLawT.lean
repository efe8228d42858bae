/- The law TokenNames of package ripostelaw17, called in any world in which the listed package variables hold what the program's text lays in them, returns true. Conditions: for every input of the row (the law has no arguments); the package variables that the row lists hold what it lists; the card ties them to the program's text. -/
import Derived.Test.YtiimhfmdhofffaaGreatDoorWT
import Derived.Test.YtiimhfmdhofffaaGreatDoorTDT
import Derived.Test.YtiimhfmdhofffaaGreatDoorFTC
import Derived.Test.YtiimhfmdhofffaaGreatDoorCards
import Derived.SevenTiedAt
namespace Go.Proofs.YtiimhfmdhofffaaGreatDoor
open Go Go.ChangeShapes Go.WideShapes Go.ChangeAt Go.RowKit
set_option maxRecDepth 100000
theorem law_lifted (os : Os) (started : os.Started) (H : Type) (enc : TypeId × Value → H) :
    ReturnsInHanded {} Tryz.checked os 3 .any (fun w args => (Rows.tokenNamesSpec.pre enc Tryz.prog Tryz.f3 [] false w args ∧ laidMetH Tryz.prog Rows.tokenNamesRow.laid w) ∧ sizedMet enc Tryz.prog Tryz.f3 (OpenSpec.ofChange Rows.tokenNamesSpec) false w args)
      (Rows.tokenNamesSpec.post enc Tryz.prog Tryz.f3 false true false false) := by
  refine returnsInHanded_of_change_and (C := Tryz.checked) (X := fun w _ => laidMetH Tryz.prog Rows.tokenNamesRow.laid w) (fun _ _ _ hh h => h.of_heap hh) own started noInit law_func
    (ChangeSpec.witness_shaped (enc := enc) (C := Tryz.checked) (os := os) (X := fun w _ => laidMetH Tryz.prog Rows.tokenNamesRow.laid w) false (laidWorld os) #[] 8 rfl (wit_shaped os) (wit_ok os) (wit_pre os enc) (wit_sized os enc) (wit_laid os)) ?_
  intro W base args ds gs before _ hW _ _ hL _
  obtain ⟨cs, el, fz, h1, h2, h3⟩ := of_laid hL
  have hargs : args = #[] := by
    obtain ⟨p, q, hA, _⟩ := hW
    have hA' : DataW.TrodAll enc Tryz.prog W 0 (fun _ => true) true Tryz.f3.params.toList args.toList ds p := hA
    rw [law_params] at hA'
    apply Array.ext'
    cases ha : args.toList <;> cases hd : ds <;> rw [ha, hd] at hA' <;> simp [DataW.TrodAll] at hA'
  subst hargs
  refine (law_calls h1 h2 h3).mono fun e W' ⟨he, g1, g2, g3⟩ => ?_
  subst he
  exact ⟨_, rfl, kept_post enc hW g1 g2 g3⟩

theorem law_holds : Rows.TokenNamesSaid :=
  OpenClaim.holds_of_wide 3 Tryz.f3 rfl rfl rfl rfl rfl rfl rfl ⟨rfl, rfl, rfl, rfl, rfl⟩ rfl rfl rfl rfl rfl k_func law_func j_all k_inst k_wrap
    (fun os started H enc _ => law_lifted os started H enc)

theorem tokenNames_card : Rows.TokenNamesCardSaid :=
  Claim7.holds_tied_plain_at .later [] [.data, .pinned, .data, .listed, .sentinel, .sentinel, .data, .data, .data] true (true, "1c247120b2fbd1d37df52aa8c4bcf7770c9ac2cb70110334e1454795b16cf85d") true
    law_holds (fun _ h => by cases h) k_wf (fun _ h => by cases h) tokenNames_row_tie rfl ⟨rfl, rfl⟩ k_main rfl
    (fun f fn hf hfn => by
      obtain rfl : f = 3 := (Option.some.inj (k_func.symm.trans hf)).symm
      obtain rfl : fn = Tryz.f3 := (Option.some.inj (law_func.symm.trans hfn)).symm
      exact ⟨k_looks, fun j t ht => by
        rw [law_params] at ht
        simp at ht⟩)
    k_goes
#print axioms tokenNames_card
end Go.Proofs.YtiimhfmdhofffaaGreatDoor
