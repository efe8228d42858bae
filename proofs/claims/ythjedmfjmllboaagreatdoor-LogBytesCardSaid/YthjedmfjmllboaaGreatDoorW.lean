/- A start that meets what the row of LogBytes lists. Conditions: none. -/
import Derived.Test.YthjedmfjmllboaaGreatDoorC
import Derived.LaidOnce
import Derived.ProofKit
import Derived.LaidMore
import Derived.OpenShut
import Derived.Stop.Joined
namespace Go.Proofs.YthjedmfjmllboaaGreatDoor
open Go Go.ChangeShapes Go.WideShapes Go.ChangeAt Go.RowKit
def flatOne : DataW Unit → List Value
  | .lit (.int k n) => [.int k n]
  | .lit (.string l) => [.string ⟨l.toArray⟩]
  | .agg [.lit (.int k n), .lit (.int k' n')] => [.int k n, .int k' n']
  | .agg [.lit (.int k n), .lit (.int k' n'), .lit (.int k'' n'')] => [.int k n, .int k' n', .int k'' n'']
  | _ => []
def flat : List (DataW Unit) → List Value
  | [] => []
  | x :: r => flatOne x ++ flat r
def partsOfD : DataW Unit → List (DataW Unit)
  | .agg l => l
  | _ => []
def row (d : DataW Unit) (t : TypeId) : Obj := .cells (flat (partsOfD d)).toArray t (0, 0)
def strOf' : DataW Unit → Value
  | .iface _ (.ptr (.agg [.lit (.string l)])) => .string ⟨l.toArray⟩
  | _ => .bool false
def spaceRows : DataW Unit → List (DataW Unit)
  | .ptr (.agg [.slice l _, _, _]) => l
  | _ => []

/-- a heap that meets what the row lists -/
def laidHeap (h : Array Obj) : Array Obj :=
  (((((((((h.setIfInBounds 0 (row Rows.laid_strings_asciiSpace 530)).setIfInBounds 2 (.cells #[.pointer (some ⟨19, 0, none⟩)] 578 (0, 0))).setIfInBounds 3 (.cells #[.iface 629 (.pointer (some ⟨17, 0, none⟩))] 401 (0, 0))).setIfInBounds 4 (.cells #[.iface 629 (.pointer (some ⟨16, 0, none⟩))] 401 (0, 0))).setIfInBounds 5 (row Rows.laid_unicode_utf8_first 530)).setIfInBounds 6 (row Rows.laid_unicode_utf8_acceptRanges 615)).setIfInBounds 7 (row Rows.laid_internal_strconv_uint64pow10 672)).setIfInBounds 8 (row Rows.laid_math_bits_deBruijn32tab 676)).setIfInBounds 9 (row Rows.laid_math_bits_deBruijn64tab 677)) ++
    #[.cells #[strOf' Rows.laid_strconv_ErrRange] 631 (0, 0), .cells #[strOf' Rows.laid_strconv_ErrSyntax] 631 (0, 0), .cells (flat (spaceRows Rows.laid_unicode_White_Space)).toArray 622 (0, 0), .cells #[.slice (some ⟨18, 0, none⟩) 7 7, .slice none 0 0, .int .i64 2] 619 (0, 0)]

noncomputable def laidWorld (os : Os) : World :=
  { World.holding Tryz.prog os ⟨#[], #[], []⟩ with heap := laidHeap (World.holding Tryz.prog os ⟨#[], #[], []⟩).heap }

noncomputable def leaves (P : Program) (w : World) (fuel M : Nat) (l : List (String × DataW Unit)) : Option (List (String × DataW Unit)) :=
  (DataW.laidRun P w fuel (l.map (·.1))).bind fun x => if nodupBits M x.2 0 && laidRowsB P w x.2 then some x.1 else none

theorem met_of_leaves {P : Program} {w : World} {fuel M : Nat} {l : List (String × DataW Unit)} (h : leaves P w fuel M l = some l) : laidMet P l w := by
  unfold leaves at h
  simp only [Option.bind_eq_some_iff] at h
  obtain ⟨x, hx, h⟩ := h
  split at h
  · rename_i hb
    simp only [Bool.and_eq_true] at hb
    cases h
    exact laidMet_of_run (ps := x.2) fuel hx (decide_eq_true (nodupBits_sound hb.1).1) hb.2
  · cases h

set_option maxRecDepth 100000
theorem wit_met (os : Os) : leaves Tryz.prog ((laidWorld os).forCall (fun _ _ => 0) ⟨#[], #[.slice none 0 0, .slice none 0 0], []⟩).memory 8 1000 Rows.logBytesRow.laid = some Rows.logBytesRow.laid := by kernel_rfl
theorem own : ownKnob Tryz.prog.godebug = none := by kernel_rfl
theorem noInit : Tryz.prog.inits.idxOf? 3 = none := by kernel_rfl
theorem law_func : Tryz.prog.funcs[3]? = some Tryz.f3 := by kernel_rfl
theorem wit_shaped (os : Os) : ((laidWorld os).forCall (fun _ _ => 0) ⟨#[], #[.slice none 0 0, .slice none 0 0], []⟩).Shaped Tryz.prog := World.shaped_of_RefB (by kernel_rfl) (by kernel_rfl)
theorem wit_ok (os : Os) : Input.okWideB Tryz.prog ((laidWorld os).forCall (fun _ _ => 0) ⟨#[], #[.slice none 0 0, .slice none 0 0], []⟩) 3 ⟨#[], #[.slice none 0 0, .slice none 0 0], []⟩ = true := by kernel_rfl
theorem wit_pre (os : Os) {H : Type} (enc : TypeId × Value → H) : Rows.logBytesSpec.preB enc Tryz.prog Tryz.f3 [] false ((laidWorld os).forCall (fun _ _ => 0) ⟨#[], #[.slice none 0 0, .slice none 0 0], []⟩).memory #[.slice none 0 0, .slice none 0 0] 8 = true := by kernel_rfl
theorem wit_sized (os : Os) {H : Type} (enc : TypeId × Value → H) : Rows.logBytesSpec.sizedB enc Tryz.prog Tryz.f3 false ((laidWorld os).forCall (fun _ _ => 0) ⟨#[], #[.slice none 0 0, .slice none 0 0], []⟩).memory #[.slice none 0 0, .slice none 0 0] 8 = true := by kernel_rfl
theorem wit_laid (os : Os) : laidMetH Tryz.prog Rows.logBytesRow.laid ((laidWorld os).forCall (fun _ _ => 0) ⟨#[], #[.slice none 0 0, .slice none 0 0], []⟩).memory :=
  laidMetH_of_parts3 (fuel := 8) (met_of_leaves (by exact wit_met os)) (by kernel_rfl) (by kernel_rfl)

theorem law_params : Tryz.f3.params = #[22, 23] := by kernel_rfl
theorem law_results : Tryz.f3.resultTypes = #[4] := by kernel_rfl
theorem uBool : Tryz.prog.underlying 4 = some .bool := by kernel_rfl

/-- what the condition gives: the table of spaces -/
theorem of_laid {W : World} (h : laidMetH Tryz.prog Rows.logBytesRow.laid W) : ∃ cs el fz, W.heap[0]? = some (.cells cs el fz) ∧ 256 ≤ cs.size ∧ ∀ (i : Nat) (k : IntKind) (b : Int), ascD[i]? = some (DataW.lit (Lit.int k b)) → cs[i]? = some (Value.int k b) := by
  rw [MakeChecks.laidMetH_plain _ _ _ (by kernel_rfl)] at h
  obtain ⟨ps, ⟨g0, t0, cs0, f0, p0, q0, hg0, ht0, hv0, hd0, _⟩, _⟩ := h
  obtain rfl := Option.some.inj (gAsc.symm.trans hg0)
  obtain rfl := Option.some.inj (tAsc.symm.trans ht0)
  have hd : DataW.trod (fun _ => ()) Tryz.prog W 0 (fun _ => true) false f0 530 cs0.toList = some (.agg ascD, p0) := hd0
  have hcells := laid_cells uAsc uByte cByte hd
  obtain ⟨xs, m1, rfl, hx, hlen, hn, hel⟩ := DataW.trod_array uAsc hd
  rw [cAsc] at hlen
  simp only [World.var?, gAsc, Option.bind_some] at hv0
  split at hv0
  · rename_i cs el fz hw
    cases hv0
    exact ⟨cs0, el, fz, hw, by simp at hlen; omega, hcells⟩
  · cases hv0

end Go.Proofs.YthjedmfjmllboaaGreatDoor
