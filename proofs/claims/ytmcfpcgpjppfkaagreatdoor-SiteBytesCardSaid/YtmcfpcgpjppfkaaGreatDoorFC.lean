/- Closed facts of the row of the law, by the kernel: the card. Conditions: none. -/
import Derived.Test.YtmcfpcgpjppfkaaGreatDoorFA
import Derived.Test.YtmcfpcgpjppfkaaGreatDoorFB
import Derived.Test.YtmcfpcgpjppfkaaGreatDoorCards
import Derived.SevenTiedAt
namespace Go.Proofs.YtmcfpcgpjppfkaaGreatDoor
open Go
set_option maxRecDepth 100000
theorem k_wf : Rows.siteBytesRow.wfByText (OpenSpec.ofChange Rows.siteBytesSpec) = true := by kernel_rfl
theorem k_main : Tryz.prog.mainIs = some ((true, "48ef9d725928f508a51a403b48ff458dfdd451bf7696e2c6435f7640463c54c6").1, (true, "48ef9d725928f508a51a403b48ff458dfdd451bf7696e2c6435f7640463c54c6").2.toList) := by kernel_rfl
theorem k_looks : true = Tryz.prog.looks [] := by kernel_rfl
theorem k_func : Tryz.prog.funcNamed "riposte/ripostelaw24.SiteBytes" = some 3 := by kernel_rfl
theorem k_nogo : (Tryz.prog.funcs.toList.all fun fn => !fn.goes) = true := by kernel_rfl
theorem k_nogo_at {g : FuncId} {fn : Func} (h : Tryz.prog.funcs[g]? = some fn) : fn.goes = false := by
  have hm : fn ∈ Tryz.prog.funcs.toList := Array.mem_toList_iff.2 (Array.mem_of_getElem? h)
  have := List.all_eq_true.1 k_nogo fn hm
  simpa using this
theorem k_goes : false = Rows.siteBytesRow.goesBy Tryz.prog := by
  have h1 : Tryz.prog.goes 3 = false := by
    unfold Program.goes
    have h2 : ((Tryz.prog.closure 3).any fun g => (Tryz.prog.funcs[g]?).any Func.goes) = false := by
      rw [List.any_eq_false]
      intro g _
      cases hg : Tryz.prog.funcs[g]? with
      | none => simp
      | some fn => simp [k_nogo_at hg]
    have h3 : Tryz.prog.funcs.any Func.goes = false := by
      rw [← Array.any_toList, List.any_eq_false]
      intro fn hm
      have := List.all_eq_true.1 k_nogo fn hm
      simpa using this
    rw [h2, h3, Bool.and_false, Bool.or_false]
  have h4 : Rows.siteBytesRow.goesBy Tryz.prog = (Tryz.prog.goesFrom "riposte/ripostelaw24.SiteBytes" || false) := rfl
  rw [h4, Program.goesFrom, k_func, Option.any_some, h1]
  rfl
theorem k_inst : Tryz.f3.isInstance Tryz.prog Rows.siteBytesRow.origin Rows.siteBytesRow.targs := of_decide_eq_true (by kernel_rfl)
theorem k_wrap : Tryz.f3.isWrapper Tryz.prog Rows.siteBytesRow.wrapper Rows.siteBytesRow.mainSum := by unfold Func.isWrapper; first | (rw [if_pos (by decide +kernel)]; kernel_rfl) | (rw [if_neg (by decide +kernel)]; exact ⟨rfl, rfl⟩)
theorem j_all : joinedFacts Tryz.prog 3 Tryz.f3 Rows.siteBytesSpec Rows.siteBytesRow = true :=
  Bool.and_eq_true_iff.2 ⟨Bool.and_eq_true_iff.2 ⟨Bool.and_eq_true_iff.2 ⟨Bool.and_eq_true_iff.2 ⟨Bool.and_eq_true_iff.2 ⟨Bool.and_eq_true_iff.2 ⟨Bool.and_eq_true_iff.2 ⟨Bool.and_eq_true_iff.2 ⟨Bool.and_eq_true_iff.2 ⟨Bool.and_eq_true_iff.2 ⟨Bool.and_eq_true_iff.2 ⟨Bool.and_eq_true_iff.2 ⟨Bool.and_eq_true_iff.2 ⟨Bool.and_eq_true_iff.2 ⟨Bool.and_eq_true_iff.2 ⟨Bool.and_eq_true_iff.2 ⟨Bool.and_eq_true_iff.2 ⟨Bool.and_eq_true_iff.2 ⟨Bool.and_eq_true_iff.2 ⟨Bool.and_eq_true_iff.2 ⟨Bool.and_eq_true_iff.2 ⟨Bool.and_eq_true_iff.2 ⟨Bool.and_eq_true_iff.2 ⟨Bool.and_eq_true_iff.2 ⟨Bool.and_eq_true_iff.2 ⟨Bool.and_eq_true_iff.2 ⟨Bool.and_eq_true_iff.2 ⟨Bool.and_eq_true_iff.2 ⟨Bool.and_eq_true_iff.2 ⟨Bool.and_eq_true_iff.2 ⟨Bool.and_eq_true_iff.2 ⟨j1, j2⟩, j3⟩, j4⟩, j5⟩, j6⟩, j7⟩, j8⟩, j9⟩, j10⟩, j11⟩, j12⟩, j13⟩, j14⟩, j15⟩, j16⟩, j17⟩, j18⟩, j19⟩, j20⟩, j21⟩, j22⟩, j23⟩, j24⟩, j25⟩, j26⟩, j27⟩, j28⟩, j29⟩, j30⟩, j31⟩, j32⟩
end Go.Proofs.YtmcfpcgpjppfkaaGreatDoor
