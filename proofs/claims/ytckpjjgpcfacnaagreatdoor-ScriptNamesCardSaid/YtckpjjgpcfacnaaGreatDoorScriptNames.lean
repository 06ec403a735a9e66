/- The card of ScriptNames: the law returns true, whatever is in memory, and what the listed tables hold is what the program's text lays. Conditions: none. -/
import Derived.SevenTiedAt
import Derived.Test.YtckpjjgpcfacnaaGreatDoorCards
import Derived.Test.YtckpjjgpcfacnaaGreatDoorTie
import Derived.Test.YtckpjjgpcfacnaaGreatDoorScriptNamesLaw
import Derived.Test.YtckpjjgpcfacnaaGreatDoorScriptNamesGoes
namespace Go.Proofs.YtckpjjgpcfacnaaGreatDoor
open Go.ChangeShapes Go.WideShapes Go.ChangeAt Go.RowKit Go.Conc Go.Den

theorem scriptNamesCard_holds : Rows.ScriptNamesCardSaid :=
  Claim7.holds_tied_plain_at .later [] [.data, .data, .data, .data, .pinned] true (true, "9b40864780eb86ca1843f9465ea58da01d7efec6625f94a97526a780cc6e16c9") true
    scriptNames_holds (fun _ h => by cases h) (by kernel_rfl) (fun _ h => by cases h) scriptNames_row_tie rfl ⟨rfl, rfl⟩ (by kernel_rfl) rfl
    (fun f fn hf hfn => by
      obtain rfl : f = 3 := Option.some.inj (scriptNames_fn.symm.trans hf) |>.symm
      obtain rfl : fn = Tryz.f3 := (Option.some.inj (Tryz.func3.symm.trans hfn)).symm
      exact ⟨by kernel_rfl, fun j t ht => by
        rw [Tryz.params3] at ht
        simp at ht⟩)
    scriptNames_goes

#print axioms scriptNamesCard_holds
end Go.Proofs.YtckpjjgpcfacnaaGreatDoor
