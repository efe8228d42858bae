/- Closed facts of the row of the law, by the kernel: the card. Conditions: none. -/
import Derived.Test.YthjedmfjmllboaaGreatDoorFA
import Derived.Test.YthjedmfjmllboaaGreatDoorFB
import Derived.Test.YthjedmfjmllboaaGreatDoorCards
import Derived.SevenTiedAt
namespace Go.Proofs.YthjedmfjmllboaaGreatDoor
open Go
set_option maxRecDepth 100000
theorem k_wf : Rows.logBytesRow.wfByText (OpenSpec.ofChange Rows.logBytesSpec) = true := by kernel_rfl
theorem k_main : Tryz.prog.mainIs = some ((true, "01b71c19434d616458fca5cee8fd3043c68b2d75aeeb58ec24c4536ffdd4509b").1, (true, "01b71c19434d616458fca5cee8fd3043c68b2d75aeeb58ec24c4536ffdd4509b").2.toList) := by kernel_rfl
theorem k_looks : true = Tryz.prog.looks [] := by kernel_rfl
theorem k_func : Tryz.prog.funcNamed "riposte/ripostelaw26.LogBytes" = some 3 := by kernel_rfl
theorem k_nogo : (Tryz.prog.funcs.toList.all fun fn => !fn.goes) = true := by kernel_rfl
theorem k_nogo_at {g : FuncId} {fn : Func} (h : Tryz.prog.funcs[g]? = some fn) : fn.goes = false := by
  have hm : fn ∈ Tryz.prog.funcs.toList := Array.mem_toList_iff.2 (Array.mem_of_getElem? h)
  have := List.all_eq_true.1 k_nogo fn hm
  simpa using this
theorem k_goes : false = Rows.logBytesRow.goesBy Tryz.prog := by
  have h1 : Tryz.prog.goes 3 = false := by
    unfold Program.goes
    have h2 : ((Tryz.prog.closure 3).any fun g => (Tryz.prog.funcs[g]?).any Func.goes) = false := by
      rw [List.any_eq_false]
      intro g _
      cases hg : Tryz.prog.funcs[g]? with
      | none => simp
      | some fn => simp [k_nogo_at hg]
    have h3 : Tryz.prog.funcs.any Func.goes = false := by
      rw [← Array.any_toList, List.any_eq_false]
      intro fn hm
      have := List.all_eq_true.1 k_nogo fn hm
      simpa using this
    rw [h2, h3, Bool.and_false, Bool.or_false]
  have h4 : Rows.logBytesRow.goesBy Tryz.prog = (Tryz.prog.goesFrom "riposte/ripostelaw26.LogBytes" || false) := rfl
  rw [h4, Program.goesFrom, k_func, Option.any_some, h1]
  rfl
theorem k_inst : Tryz.f3.isInstance Tryz.prog Rows.logBytesRow.origin Rows.logBytesRow.targs := of_decide_eq_true (by kernel_rfl)
theorem k_wrap : Tryz.f3.isWrapper Tryz.prog Rows.logBytesRow.wrapper Rows.logBytesRow.mainSum := by unfold Func.isWrapper; first | (rw [if_pos (by decide +kernel)]; kernel_rfl) | (rw [if_neg (by decide +kernel)]; exact ⟨rfl, rfl⟩)
theorem j_all : joinedFacts Tryz.prog 3 Tryz.f3 Rows.logBytesSpec Rows.logBytesRow = true :=
  Bool.and_eq_true_iff.2 ⟨Bool.and_eq_true_iff.2 ⟨Bool.and_eq_true_iff.2 ⟨Bool.and_eq_true_iff.2 ⟨Bool.and_eq_true_iff.2 ⟨Bool.and_eq_true_iff.2 ⟨Bool.and_eq_true_iff.2 ⟨Bool.and_eq_true_iff.2 ⟨Bool.and_eq_true_iff.2 ⟨Bool.and_eq_true_iff.2 ⟨Bool.and_eq_true_iff.2 ⟨Bool.and_eq_true_iff.2 ⟨Bool.and_eq_true_iff.2 ⟨Bool.and_eq_true_iff.2 ⟨Bool.and_eq_true_iff.2 ⟨Bool.and_eq_true_iff.2 ⟨Bool.and_eq_true_iff.2 ⟨Bool.and_eq_true_iff.2 ⟨Bool.and_eq_true_iff.2 ⟨Bool.and_eq_true_iff.2 ⟨Bool.and_eq_true_iff.2 ⟨Bool.and_eq_true_iff.2 ⟨Bool.and_eq_true_iff.2 ⟨Bool.and_eq_true_iff.2 ⟨Bool.and_eq_true_iff.2 ⟨Bool.and_eq_true_iff.2 ⟨Bool.and_eq_true_iff.2 ⟨Bool.and_eq_true_iff.2 ⟨Bool.and_eq_true_iff.2 ⟨Bool.and_eq_true_iff.2 ⟨Bool.and_eq_true_iff.2 ⟨j1, j2⟩, j3⟩, j4⟩, j5⟩, j6⟩, j7⟩, j8⟩, j9⟩, j10⟩, j11⟩, j12⟩, j13⟩, j14⟩, j15⟩, j16⟩, j17⟩, j18⟩, j19⟩, j20⟩, j21⟩, j22⟩, j23⟩, j24⟩, j25⟩, j26⟩, j27⟩, j28⟩, j29⟩, j30⟩, j31⟩, j32⟩
end Go.Proofs.YthjedmfjmllboaaGreatDoor
