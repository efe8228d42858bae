/- The law SiteBytes of package ripostelaw24, called with any frame and any bytes in any world in which the listed package variables hold what the program's text lays in them, returns true, and its arguments read as they did. Conditions: for every input of the row; the package variables that the row lists hold what it lists; the card ties them to the program's text. -/
import Derived.Test.YtmcfpcgpjppfkaaGreatDoorW
import Derived.Test.YtmcfpcgpjppfkaaGreatDoorTD
import Derived.Test.YtmcfpcgpjppfkaaGreatDoorFC
import Derived.Test.YtmcfpcgpjppfkaaGreatDoorCards
import Derived.Test.YtmcfpcgpjppfkaaGreatDoorPK
import Derived.Test.YtmcfpcgpjppfkaaGreatDoorV
import Derived.SevenTiedAt
import Derived.Carry
import Derived.WalkKit
import Derived.ProofKit
import Derived.OpenShut
import Derived.ChangeOld
namespace Go.Proofs.YtmcfpcgpjppfkaaGreatDoor
open Go Go.ChangeShapes Go.WideShapes Go.ChangeAt Go.RowKit
set_option maxRecDepth 100000
theorem k_read : Tryz.prog.readableRec 30 = true ∧ Tryz.prog.readableRec 31 = true := by
  have h := j4
  rw [law_params] at h
  simpa using h
theorem k_types : 31 < Tryz.prog.types.size := of_decide_eq_true (by kernel_rfl)
theorem B0.same {W w' : World} (h : PB.B0 W w') {p : MemPlace} (hp : p.block < W.heap.size) : W.sameAt w' p := by
  cases p with
  | cell b o => exact World.cell?_of_block (w := W) (h.block b hp)
  | map b => exact h.block b hp
theorem B0.frame {W w' : World} (h : PB.B0 W w') (may : MemPlace → Prop) : W.keptBut w' may := by
  refine ⟨h.os, h.output, fun i hi => ?_⟩
  rw [h.block i hi]
  split <;> simp_all
theorem B0.trod {H : Type} {enc : TypeId × Value → H} {t : TypeId} (hr : Tryz.prog.readableRec t = true) (hrow : t < Tryz.prog.types.size) {W W' : World} {v : Value} {d : DataW H} {ps : List MemPlace}
    (h : DataW.Trod enc Tryz.prog W 0 (fun _ => true) true t v d ps) (hb : PB.B0 W W') (hlt : ∀ x ∈ ps, x.block < W.heap.size) : DataW.Trod enc Tryz.prog W' 0 (fun b => decide (b < W.heap.size)) true t v d ps :=
  WideElems.Trod_stays j2 hr hrow h (fun x hx => B0.same hb (hlt x hx)) (fun x hx => by simpa using hlt x hx)
theorem law_body {H : Type} {enc : TypeId × Value → H} {W : World} {cs0 : Array Value} {a1 : Option Addr} {n1 c1 : Nat} {d0 d1 : DataW H} {p0 p1 : List MemPlace} {cs : Array Value} {el : TypeId} {fz : Nat × Nat}
    (h0 : DataW.Trod enc Tryz.prog W 0 (fun _ => true) true 30 (.agg cs0) d0 p0) (hw : ∀ n ∈ d0.weights Tryz.prog 30, n ≤ reachBytes) (h1 : DataW.Trod enc Tryz.prog W 0 (fun _ => true) true 31 (.slice a1 n1 c1) d1 p1) (hn : n1 * 1 ≤ 140737488351232)
    (hg : W.heap[0]? = some (.cells cs el fz)) (hsz : 256 ≤ cs.size) (hc : ∀ (i : Nat) (k : IntKind) (b : Int), ascD[i]? = some (DataW.lit (Lit.int k b)) → cs[i]? = some (Value.int k b)) :
    Calls Tryz.prog 3 #[.agg cs0, .slice a1 n1 c1] W fun e W' => e = .returned (.bool true) ∧ PB.B0 W W' := by
  obtain ⟨f, A6, c6, A9, c9, rfl, g6, b6, g9, b9, l6, l9, kk⟩ := PB.open_frame h0 hw
  obtain ⟨l1, rfl, k1, o1, b1⟩ := PB.open_row h1
  have hlt : 0 < W.heap.size := (Array.getElem?_eq_some_iff.1 hg).1
  have e : reachBytes = 140737488351232 := rfl
  rw [e] at l6 l9
  obtain ⟨t, ht, hl⟩ := PB.thin_some 4998 f (by omega) (by omega)
  refine PB.law_calls 5000 f A6 c6 A9 c9 a1 c1 l1 t W g6 b6 g9 b9 k1 b1 (by omega) ht (fun e hx => PB.pure_law f l1 kk o1 (hl e).1 (hl e).2 hx) (fun w' hb => ?_)
  exact (awake_calls ((hb.block 0 hlt).trans hg) hsz hc).mono fun e w'' ⟨he, g1, g2, g3, g4⟩ => ⟨he, ⟨g1, g2, g3, g4⟩⟩
theorem law_lifted (os : Os) (started : os.Started) (H : Type) (enc : TypeId × Value → H) :
    ReturnsInHanded {} Tryz.checked os 3 .any (fun w args => (Rows.siteBytesSpec.pre enc Tryz.prog Tryz.f3 [] false w args ∧ laidMetH Tryz.prog Rows.siteBytesRow.laid w) ∧ sizedMet enc Tryz.prog Tryz.f3 (OpenSpec.ofChange Rows.siteBytesSpec) false w args)
      (Rows.siteBytesSpec.post enc Tryz.prog Tryz.f3 false true false false) := by
  refine returnsInHanded_of_change_and (C := Tryz.checked) (X := fun w _ => laidMetH Tryz.prog Rows.siteBytesRow.laid w) (fun _ _ _ hh h => h.of_heap hh) own started noInit law_func
    (ChangeSpec.witness_shaped (enc := enc) (C := Tryz.checked) (os := os) (X := fun w _ => laidMetH Tryz.prog Rows.siteBytesRow.laid w) false (laidWorld os) witArgs 8 rfl (wit_shaped os) (wit_ok os) (wit_pre os enc) (wit_sized os enc) (wit_laid os)) ?_
  intro W base args ds gs before hval0 hW _ hz0 hL _
  obtain ⟨cs, el, fz, t1, t2, t3⟩ := of_laid hL
  have hval : ∀ (j : Nat) t v, Tryz.f3.params[j]? = some t → args[j]? = some v → Value.okWide Tryz.prog W .any base t v := hval0
  have hW' := hW
  obtain ⟨p, q, hA0, hV, rfl, hfz, hnd⟩ := hW
  have hA : DataW.TrodAll enc Tryz.prog W 0 (fun _ => true) true Tryz.f3.params.toList args.toList ds p := hA0
  have hz : (DataW.weightsEach Tryz.prog (Tryz.f3.params.toList ++ Rows.siteBytesSpec.plain.varTypes Tryz.prog) (ds ++ gs)).all (· ≤ reachBytes) = true := hz0
  rw [law_params] at hA hval hz
  obtain ⟨v0, vs0, d0, ds0, p0, q0, hargs, rfl, rfl, h0, r0⟩ := trodAll_cons hA
  obtain ⟨v1, vs1, d1, ds1, p1, q1, rfl, rfl, rfl, h1, r1⟩ := trodAll_cons r0
  obtain ⟨rfl, rfl, rfl⟩ := trodAll_nil r1
  obtain rfl : args = #[v0, v1] := by cases args; simp_all
  obtain ⟨rfl, rfl⟩ := trodVars_none hV
  have ok0 := hval 0 30 v0 rfl rfl
  unfold Value.okWide at ok0
  rw [Tryz.underlying30] at ok0
  obtain ⟨cs0, rfl, _, _⟩ := ok0
  obtain ⟨a1, n1, c1, rfl⟩ := okWide_slice Tryz.underlying31 (hval 1 31 v1 rfl rfl)
  have lt0 : ∀ x ∈ p0, x.block < W.heap.size := by obtain ⟨m, hm⟩ := h0; exact DataW.trod_lt m _ _ _ hm
  have lt1 : ∀ x ∈ p1, x.block < W.heap.size := by obtain ⟨m, hm⟩ := h1; exact DataW.trod_lt m _ _ _ hm
  have hw : ∀ n ∈ d0.weights Tryz.prog 30, n ≤ reachBytes := fun n hn => by
    have := List.all_eq_true.1 hz n (DataW.weights_mem_each (j := 0) (t := 30) (d := d0) rfl rfl n hn)
    simpa using this
  have hn := Go.Proofs.YtmcfpcgpjppfkaaGreatDoorW.PrintWords.sized_ints (j := 1) hz rfl rfl Tryz.underlying31 Tryz.underlying5 PB.cells5 PB.bytes5 h1
  clear hA0 hval0 hz0
  refine (law_body h0 hw h1 hn t1 t2 t3).mono fun e W' ⟨he, bel⟩ => ?_
  subst he
  exact ⟨_, rfl, _, _, _, [], _, [], hW', trodAll_mk1 (shut_bool uBool _), trodAll_cons_mk (B0.trod k_read.1 (Nat.lt_of_succ_lt k_types) h0 bel lt0) (trodAll_cons_mk (B0.trod k_read.2 k_types h1 bel lt1) trodAll_mk0), rfl, B0.frame bel _, fun h => by cases h⟩

theorem law_holds : Rows.SiteBytesSaid :=
  OpenClaim.holds_of_wide 3 Tryz.f3 rfl rfl rfl rfl rfl rfl rfl ⟨rfl, rfl, rfl, rfl, rfl⟩ rfl rfl rfl rfl rfl k_func law_func j_all k_inst k_wrap
    (fun os started H enc _ => law_lifted os started H enc)
theorem k_in30 : Tryz.prog.wantsStandIn 30 = false := by kernel_rfl
theorem k_in31 : Tryz.prog.wantsStandIn 31 = false := by kernel_rfl

theorem siteBytes_card : Rows.SiteBytesCardSaid :=
  Claim7.holds_tied_plain_at .later [] [.data, .pinned, .data, .listed, .sentinel, .sentinel, .data, .data, .data] true (true, "48ef9d725928f508a51a403b48ff458dfdd451bf7696e2c6435f7640463c54c6") true
    law_holds (fun _ h => by cases h) k_wf (fun _ h => by cases h) siteBytes_row_tie rfl ⟨rfl, rfl⟩ k_main rfl
    (fun f fn hf hfn => by
      obtain rfl : f = 3 := (Option.some.inj (k_func.symm.trans hf)).symm
      obtain rfl : fn = Tryz.f3 := (Option.some.inj (law_func.symm.trans hfn)).symm
      exact ⟨k_looks, fun j t ht => by
        rw [law_params] at ht
        match j, ht with
        | 0, ht => obtain rfl : 30 = t := Option.some.inj ht; exact k_in30
        | 1, ht => obtain rfl : 31 = t := Option.some.inj ht; exact k_in31⟩)
    k_goes
#print axioms siteBytes_card
end Go.Proofs.YtmcfpcgpjppfkaaGreatDoor
