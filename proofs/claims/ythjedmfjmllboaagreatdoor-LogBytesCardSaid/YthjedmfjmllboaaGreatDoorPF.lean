/- The call of LogBytes; what its functions on lists answer; its arguments opened. Conditions: those that the theorems state. -/
import Derived.Test.YthjedmfjmllboaaGreatDoorPA
import Derived.Test.YthjedmfjmllboaaGreatDoorV
import Derived.Test.YthjedmfjmllboaaGreatDoorPB
import Derived.Test.YthjedmfjmllboaaGreatDoorPC
import Derived.Test.YthjedmfjmllboaaGreatDoorPD
import Derived.Test.YthjedmfjmllboaaGreatDoorPE
import Derived.Lib.Bytes
import Derived.Deep.Slices
set_option linter.unusedVariables false
set_option linter.unusedSimpArgs false
namespace Go.Proofs.YthjedmfjmllboaaGreatDoor.PB
open Go.RowKit Go.Proofs.YthjedmfjmllboaaGreatDoorW.PrintWords Go.Proofs.YthjedmfjmllboaaGreatDoorW.PrintLast
structure B0 (w w' : World) : Prop where
  os : w'.os = w.os
  output : w'.output = w.output
  size : w.heap.size ≤ w'.heap.size
  block : ∀ k, k < w.heap.size → w'.heap[k]? = w.heap[k]?
theorem B0.step {w w1 w2 : World} (h : Below w.heap.size w w1) (k : B0 w1 w2) : B0 w w2 :=
  ⟨k.os.trans h.os, k.output.trans h.output, Nat.le_trans h.size k.size, fun c hc => (k.block c (Nat.lt_of_lt_of_le hc h.size)).trans (h.block c hc)⟩
def zlaw_Fake.j0 : Nat → List (S59) → List Int → Bool → Option (Bool)
  | 0, _, _, _ => none
  | k + 1, x0, x1, x22 => if x22 = true then (some true) else ((riposteref26_CopyEntries.f k x0).bind fun t345 => ((log_Bytes.f k t345).bind fun bt348 => ((riposteref26_Bytes.f k x0).bind fun bt352 => ((some (([] : List Int) : List Int)).bind fun y356 => (if y356.length + x1.length < 140737488355328 then ((log_Read.f k (y356 ++ x1)).bind fun bt362 => ((riposteref26_Read.f k x1).bind fun bt367 => (if (strOfNums bt348.1).toList = (strOfNums bt352.1).toList then (if bt348.2 = bt352.2 then ((riposteref26_SameEntries.f k bt362.1 bt367.1).bind fun t372 => (if t372 = true then (if bt362.2.1 = bt367.2.1 then (if bt362.2.2 = bt367.2.2 then ((some (([] : List Int) : List Int)).bind fun y373 => (if y373.length + x1.length < 140737488355328 then ((log_Sum.f k (y373 ++ x1)).bind fun t379 => ((riposteref26_Sum.f k x1).bind fun t380 => (some (t379 == t380)))) else (none))) else (some false)) else (some false)) else (some false))) else (some false)) else (some false)))) else (none))))))
def zlaw_Fake.f (k : Nat) (l0 : List (S59)) (l1 : List Int) : Option (Bool) := (ripostelaw26_ThinEntries.f k l0).bind fun t344 => (if t344 = true then (zlaw_Fake.j0 k l0 l1 (decide ((l1.length : Int) > 4000))) else (zlaw_Fake.j0 k l0 l1 true))
theorem zlaw_Fake.mono_l : ∀ k, (∀ y0 y1 y2, LeO (zlaw_Fake.j0 k y0 y1 y2) (zlaw_Fake.j0 (k + 1) y0 y1 y2))
  | 0 => fun _ _ _ r h => by simp [zlaw_Fake.j0] at h
  | k + 1 => by
    have ih0 := zlaw_Fake.mono_l k
    · intro y0 y1 y2
      unfold zlaw_Fake.j0
      repeat' first
      | (with_reducible exact ih0 _ _ _)
      | (with_reducible exact log_Bytes.mono _ _)
      | (with_reducible exact log_Read.mono _ _)
      | (with_reducible exact log_Sum.mono _ _)
      | (with_reducible exact ripostelaw26_ThinEntries.mono _ _)
      | (with_reducible exact riposteref26_Bytes.mono _ _)
      | (with_reducible exact riposteref26_CopyEntries.mono _ _)
      | (with_reducible exact riposteref26_Read.mono _ _)
      | (with_reducible exact riposteref26_SameEntries.mono _ _ _)
      | (with_reducible exact riposteref26_Sum.mono _ _)
      | (with_reducible exact LeO.refl _)
      | (with_reducible exact LeO.none _)
      | (with_reducible refine LeO.ite ?_ ?_)
      | (with_reducible refine LeO.bind ?_ (fun _ => ?_))
      | exact ih0 _ _ _
      | exact log_Bytes.mono _ _
      | exact log_Read.mono _ _
      | exact log_Sum.mono _ _
      | exact ripostelaw26_ThinEntries.mono _ _
      | exact riposteref26_Bytes.mono _ _
      | exact riposteref26_CopyEntries.mono _ _
      | exact riposteref26_Read.mono _ _
      | exact riposteref26_SameEntries.mono _ _ _
      | exact riposteref26_Sum.mono _ _
      | exact LeO.none _
      | refine LeO.ite ?_ ?_
      | refine LeO.bind ?_ (fun _ => ?_)
theorem zlaw_Fake.mono : ∀ a0 a1 k, LeO (zlaw_Fake.f k a0 a1) (zlaw_Fake.f (k + 1) a0 a1) := by
 intro a0 a1 k; have ih0 := zlaw_Fake.mono_l k; unfold zlaw_Fake.f
 repeat' first
   | (with_reducible exact ih0 _ _ _)
   | (with_reducible exact log_Bytes.mono _ _)
   | (with_reducible exact log_Read.mono _ _)
   | (with_reducible exact log_Sum.mono _ _)
   | (with_reducible exact ripostelaw26_ThinEntries.mono _ _)
   | (with_reducible exact riposteref26_Bytes.mono _ _)
   | (with_reducible exact riposteref26_CopyEntries.mono _ _)
   | (with_reducible exact riposteref26_Read.mono _ _)
   | (with_reducible exact riposteref26_SameEntries.mono _ _ _)
   | (with_reducible exact riposteref26_Sum.mono _ _)
   | (with_reducible exact LeO.refl _)
   | (with_reducible exact LeO.none _)
   | (with_reducible refine LeO.ite ?_ ?_)
   | (with_reducible refine LeO.bind ?_ (fun _ => ?_))
   | exact ih0 _ _ _
   | exact log_Bytes.mono _ _
   | exact log_Read.mono _ _
   | exact log_Sum.mono _ _
   | exact ripostelaw26_ThinEntries.mono _ _
   | exact riposteref26_Bytes.mono _ _
   | exact riposteref26_CopyEntries.mono _ _
   | exact riposteref26_Read.mono _ _
   | exact riposteref26_SameEntries.mono _ _ _
   | exact riposteref26_Sum.mono _ _
   | exact LeO.none _
   | refine LeO.ite ?_ ?_
   | refine LeO.bind ?_ (fun _ => ?_)
set_option maxHeartbeats 8000000 in
set_option maxRecDepth 100000 in
theorem law_calls (k : Nat) (A0 : Option Addr) (c0 : Nat) (l0 : List (S59)) (A1 : Option Addr) (c1 : Nat) (l1 : List Int) (w : World) (hr0 : Kd.C k59 w A0 l0.length l0) (hc0 : l0.length ≤ c0) (hr1 : Kd.C (Kd.int .u8) w A1 l1.length l1) (hc1 : l1.length ≤ c1) (aw : ∀ w', Below w.heap.size w w' → Calls Tryz.prog 6 #[] w' fun e w'' => e = .returned (.bool true) ∧ B0 w' w'') (h : zlaw_Fake.f k l0 l1 = some true) :
    Calls Tryz.prog 3 #[.slice A0 l0.length c0, .slice A1 l1.length c1] w fun e w' => e = .returned (.bool true) ∧ B0 w w' := by
 have AW := Aside0.mk aw; clear aw; have HR0 := Aside0.mk hr0; have HC0 := Aside0.mk hc0; clear hr0 hc0; have HR1 := Aside0.mk hr1; have HC1 := Aside0.mk hc1; clear hr1 hc1; have HB := Aside0.mk (Below.refl w.heap.size w); have H := h; unfold zlaw_Fake.f at H; clear h; have HC3 := Aside0.mk H; clear H; go_enter Tryz.func3, Tryz.ntmps3
 go_upto_region 1 with (fail)
 go_cut [22] (fun v22 wc => ∃ (kq : Nat) (x22_2 : Bool), v22 = .bool x22_2 ∧ Aside0 (zlaw_Fake.j0 kq l0 l1 x22_2 = some true) ∧ Aside0 (kq ≤ k) ∧ Aside0 (Below w.heap.size w wc))
 case first =>
  have H := HC3.out; clear HC3; replace H := Option.bind_eq_some_iff.mp H; obtain ⟨t344, A40, H⟩ := H; have A4 := Aside0.mk A40; clear A40; by_cases c5 : t344 = true
  · subst c5; rw [if_pos rfl] at H; have H' := Aside0.mk H; clear H; go_wp2_with (first | ((with_reducible refine gate_callee (f := 5) rfl ?_); refine goesL_ (some 16) rfl rfl Tryz.func5 (by kernel_rfl) rfl #[.slice A0 l0.length c0] rfl lz ?_; (with_reducible refine (ripostelaw26_ThinEntries.calls k _ _ l0 true _ ?side1 ?side2 A4.out).mono ?_); (case side1 => exact cz (Kd.C_below HR0.out HB.out)); (case side2 => exact HC0.out); rintro e w' ⟨rfl, ⟨nd, rfl⟩⟩; refine ⟨_, rfl, ?_⟩))
    go_meet
    case rel => exact ⟨_, (decide ((l1.length : Int) > 4000)), (by first | rfl | (simp; done) | (simp [*]; done)), H', ⟨by first | omega | exact Nat.le_refl _⟩, ⟨bz⟩⟩
  replace c5 := Bool.eq_false_iff.mpr c5; subst c5; rw [if_neg (show ¬ (false = true) by decide)] at H; have H' := Aside0.mk H; clear H; go_wp2_with (first | ((with_reducible refine gate_callee (f := 5) rfl ?_); refine goesL_ (some 16) rfl rfl Tryz.func5 (by kernel_rfl) rfl #[.slice A0 l0.length c0] rfl lz ?_; (with_reducible refine (ripostelaw26_ThinEntries.calls k _ _ l0 false _ ?side1 ?side2 A4.out).mono ?_); (case side1 => exact cz (Kd.C_below HR0.out HB.out)); (case side2 => exact HC0.out); rintro e w' ⟨rfl, ⟨nd, rfl⟩⟩; refine ⟨_, rfl, ?_⟩))
  go_meet
  case rel => exact ⟨_, (true), (by first | rfl | (simp; done) | (simp [*]; done)), H', ⟨by first | omega | exact Nat.le_refl _⟩, ⟨bz⟩⟩
 case rest =>
  clear HC3; try clear c1
  try clear p2
  try clear c3
  try clear c4
  try clear c5
  obtain ⟨kq, x22_2, rfl, HA, HJ2, HB⟩ := hcut; cases kq with
  | zero => exact absurd HA.out (by simp [zlaw_Fake.j0])
  | succ kj2 =>
   have H := HA.out; clear HA; simp only [zlaw_Fake.j0] at H; by_cases c6 : x22_2 = true
   · subst c6; have H1 : (some true : Option Bool) = some true := rfl; clear H; have H := H1; clear H1; clear H; go_wp2_with (first | ((with_reducible refine gate_callee (f := 6) rfl ?_); refine goesL_ (some 23) rfl rfl Tryz.func6 (by kernel_rfl) rfl #[] rfl (by (try simp only [List.map_toArray, List.map_cons, List.map_nil]); first | done | rfl) ?_; (with_reducible refine (AW.out _ bz).mono ?_); rintro e w' ⟨rfl, hb⟩; refine ⟨_, rfl, ?_⟩; have HF := Aside0.mk (B0.step bz hb); clear hb))
     go_ret
     exact ⟨xz, HF.out⟩
   replace c6 := Bool.eq_false_iff.mpr c6; subst c6; rw [if_neg (show ¬ (false = true) by decide)] at H; replace H := Option.bind_eq_some_iff.mp H; obtain ⟨t345, A70, H⟩ := H; have A7 := Aside0.mk A70; clear A70; replace H := Option.bind_eq_some_iff.mp H; obtain ⟨⟨t348, t349⟩, A80, H⟩ := H; dsimp only at H; have A8 := Aside0.mk A80; clear A80; replace H := Option.bind_eq_some_iff.mp H; obtain ⟨⟨t352, t353⟩, A90, H⟩ := H; dsimp only at H; have A9 := Aside0.mk A90; clear A90; obtain ⟨y356, hy356⟩ : ∃ y_ : List Int, y_ = (([] : List Int)) := ⟨_, rfl⟩
   replace H : (if y356.length + l1.length < 140737488355328 then ((log_Read.f kj2 (y356 ++ l1)).bind fun bt362 => ((riposteref26_Read.f kj2 l1).bind fun bt367 => (if (strOfNums t348).toList = (strOfNums t352).toList then (if t349 = t353 then ((riposteref26_SameEntries.f kj2 bt362.1 bt367.1).bind fun t372 => (if t372 = true then (if bt362.2.1 = bt367.2.1 then (if bt362.2.2 = bt367.2.2 then ((some (([] : List Int) : List Int)).bind fun y373 => (if y373.length + l1.length < 140737488355328 then ((log_Sum.f kj2 (y373 ++ l1)).bind fun t379 => ((riposteref26_Sum.f kj2 l1).bind fun t380 => (some (t379 == t380)))) else (none))) else (some false)) else (some false)) else (some false))) else (some false)) else (some false)))) else (none)) = some true := wz hy356; have Ny356 := Aside0.mk hy356; clear hy356; by_cases c10 : y356.length + l1.length < 140737488355328; rotate_left
   · rw [if_neg c10] at H; exact absurd H (by simp)
   rw [if_pos c10] at H; have LMc10 := Aside0.mk c10; clear c10; obtain ⟨y359, hy359⟩ : ∃ y_ : List Int, y_ = (y356 ++ l1) := ⟨_, rfl⟩
   replace H : ((log_Read.f kj2 y359).bind fun bt362 => ((riposteref26_Read.f kj2 l1).bind fun bt367 => (if (strOfNums t348).toList = (strOfNums t352).toList then (if t349 = t353 then ((riposteref26_SameEntries.f kj2 bt362.1 bt367.1).bind fun t372 => (if t372 = true then (if bt362.2.1 = bt367.2.1 then (if bt362.2.2 = bt367.2.2 then ((some (([] : List Int) : List Int)).bind fun y373 => (if y373.length + l1.length < 140737488355328 then ((log_Sum.f kj2 (y373 ++ l1)).bind fun t379 => ((riposteref26_Sum.f kj2 l1).bind fun t380 => (some (t379 == t380)))) else (none))) else (some false)) else (some false)) else (some false))) else (some false)) else (some false)))) = some true := wz hy359; have Ny359 := Aside0.mk hy359; clear hy359; replace H := Option.bind_eq_some_iff.mp H; obtain ⟨⟨t362, t363, t364⟩, A110, H⟩ := H; dsimp only at H; have A11 := Aside0.mk A110; clear A110; replace H := Option.bind_eq_some_iff.mp H; obtain ⟨⟨t367, t368, t369⟩, A120, H⟩ := H; dsimp only at H; have A12 := Aside0.mk A120; clear A120; by_cases c13 : (strOfNums t348).toList = (strOfNums t352).toList; rotate_left
   · rw [if_neg c13] at H; have c13b0 := beq_eq_false_iff_ne.mpr c13; have c13b1 := bne_iff_ne.mpr c13; exact absurd H (by simp)
   rw [if_pos c13] at H; have c13b0 := beq_iff_eq.mpr c13; have c13b1 := bne_eq_false_iff_eq.mpr c13; clear c13; by_cases c14 : t349 = t353; rotate_left
   · rw [if_neg c14] at H; have c14b0 := beq_eq_false_iff_ne.mpr c14; have c14b1 := bne_iff_ne.mpr c14; exact absurd H (by simp)
   rw [if_pos c14] at H; have c14b0 := beq_iff_eq.mpr c14; have c14b1 := bne_eq_false_iff_eq.mpr c14; clear c14; replace H := Option.bind_eq_some_iff.mp H; obtain ⟨t372, A150, H⟩ := H; have A15 := Aside0.mk A150; clear A150; by_cases c16 : t372 = true; rotate_left
   · replace c16 := Bool.eq_false_iff.mpr c16; subst c16; rw [if_neg (show ¬ (false = true) by decide)] at H; exact absurd H (by simp)
   subst c16; rw [if_pos rfl] at H; by_cases c17 : t363 = t368; rotate_left
   · rw [if_neg c17] at H; have c17b0 := beq_eq_false_iff_ne.mpr c17; have c17b1 := bne_iff_ne.mpr c17; exact absurd H (by simp)
   rw [if_pos c17] at H; have c17b0 := beq_iff_eq.mpr c17; have c17b1 := bne_eq_false_iff_eq.mpr c17; clear c17; by_cases c18 : t364 = t369; rotate_left
   · rw [if_neg c18] at H; have c18b0 := beq_eq_false_iff_ne.mpr c18; have c18b1 := bne_iff_ne.mpr c18; exact absurd H (by simp)
   rw [if_pos c18] at H; have c18b0 := beq_iff_eq.mpr c18; have c18b1 := bne_eq_false_iff_eq.mpr c18; clear c18; obtain ⟨y373, hy373⟩ : ∃ y_ : List Int, y_ = (([] : List Int)) := ⟨_, rfl⟩
   replace H : (if y373.length + l1.length < 140737488355328 then ((log_Sum.f kj2 (y373 ++ l1)).bind fun t379 => ((riposteref26_Sum.f kj2 l1).bind fun t380 => (some (t379 == t380)))) else (none)) = some true := wz hy373; have Ny373 := Aside0.mk hy373; clear hy373; by_cases c19 : y373.length + l1.length < 140737488355328; rotate_left
   · rw [if_neg c19] at H; exact absurd H (by simp)
   rw [if_pos c19] at H; have LMc19 := Aside0.mk c19; clear c19; obtain ⟨y376, hy376⟩ : ∃ y_ : List Int, y_ = (y373 ++ l1) := ⟨_, rfl⟩
   replace H : ((log_Sum.f kj2 y376).bind fun t379 => ((riposteref26_Sum.f kj2 l1).bind fun t380 => (some (t379 == t380)))) = some true := wz hy376; have Ny376 := Aside0.mk hy376; clear hy376; replace H := Option.bind_eq_some_iff.mp H; obtain ⟨t379, A200, H⟩ := H; have A20 := Aside0.mk A200; clear A200; replace H := Option.bind_eq_some_iff.mp H; obtain ⟨t380, A210, H⟩ := H; have A21 := Aside0.mk A210; clear A210; have c20b0 : (t379 == t380) = true := Option.some.inj H; have c20b1 : (t379 != t380) = false := by rw [bne, c20b0]; rfl
   clear H
   go_wp2_with (first | ((with_reducible refine gate_callee (f := 8) rfl ?_); refine goesL_ (some 26) rfl rfl Tryz.func8 (by kernel_rfl) rfl #[.slice A0 l0.length c0] rfl lz ?_; (with_reducible refine (riposteref26_CopyEntries.calls kj2 _ _ l0 t345 _ ?side1 ?side2 A7.out).mono ?_); (case side1 => exact cz (Kd.C_below HR0.out HB.out)); (case side2 => exact HC0.out); rintro e w22 ⟨v346, rfl, ho0, hb⟩; refine ⟨_, rfl, ?_⟩; have HO347 := Aside0.mk (Kd.S_lower ho0 (below_size bz)); replace HB := Aside0.mk (below_step bz hb); (try clear hb); (try clear hb2); (try clear hk); (try clear hi); (try clear ho0); obtain ⟨Ao23, co23, eo23⟩ := Kd.S_slice HO347.out; subst eo23) | ((with_reducible refine gate_callee (f := 7) rfl ?_); refine goesL_ (some 27) rfl rfl Tryz.func7 (by kernel_rfl) rfl #[.slice Ao23 t345.length co23] rfl lz ?_; (with_reducible refine (log_Bytes.calls kj2 _ _ t345 t348 t349 _ ?side1 ?side2 A8.out).mono ?_); (case side1 => exact cz ((Kd.S_reads' HO347.out).2.2)); (case side2 => exact (Kd.S_reads' HO347.out).2.1); rintro e w24 ⟨v350, rfl, ho0, hb⟩; refine ⟨_, rfl, ?_⟩; replace HO347 := Aside0.mk (Kd.S_elder' (sz HO347) (Kd.R_base ho0) hb); have HO351 := Aside0.mk (Kd.R_lower ho0 (below_size bz)); replace HB := Aside0.mk (below_step bz hb); (try clear hb); (try clear hb2); (try clear hk); (try clear hi); (try clear ho0)) | ((with_reducible refine gate_callee (f := 9) rfl ?_); refine goesL_ (some 32) rfl rfl Tryz.func9 (by kernel_rfl) rfl #[.slice A0 l0.length c0] rfl lz ?_; (with_reducible refine (riposteref26_Bytes.calls kj2 _ _ l0 t352 t353 _ ?side1 ?side2 A9.out).mono ?_); (case side1 => exact cz (Kd.C_below HR0.out HB.out)); (case side2 => exact HC0.out); rintro e w25 ⟨v354, rfl, ho0, hb⟩; refine ⟨_, rfl, ?_⟩; replace HO347 := Aside0.mk (Kd.S_elder' (sz HO347) (Kd.R_base ho0) hb); have HO355 := Aside0.mk (Kd.R_lower (Kd.R_new' ho0 (Kd.R_lt (rz HO351))) (below_size bz)); replace HO351 := Aside0.mk (Kd.R_elder' (rz HO351) (Kd.R_base ho0) hb); replace HB := Aside0.mk (below_step bz hb); (try clear hb); (try clear hb2); (try clear hk); (try clear hi); (try clear ho0)) | ((with_reducible refine gate_dst (N := 36) rfl ?_); (try (refine gate_guard (by rfl) ?_; dsimp only)); refine Kd.R_lit (Kd.int .u8) _ 5 ?hg (N := 36) ?hd (xs := ([] : List Int)) (inner := []) (ok := fun _ => True) (okp := fun _ => True) ?hr ?hp (fun _ hk => hk) trivial (Below.refl _ _) (Nat.le_refl _) (by simp) ?_; (case hd => rfl); (case hg => rfl); (case hr => exact hz); (case hp => exact (Reps.none _ _)); intro v357 w26 ho27 hb hg_ hnew_; clear hg_ hnew_; (first | rw [← Ny356.out] at ho27 | (simp only [Int.reduceToNat] at ho27; rw [← Ny356.out] at ho27)); replace HO347 := Aside0.mk (Kd.S_elder' (sz HO347) (Kd.R_base ho27) hb); have HO358 := Aside0.mk (Kd.R_lower (Kd.R_new' (Kd.R_new' ho27 (Kd.R_lt (rz HO351))) (Kd.R_lt (rz HO355))) (below_size bz)); replace HO351 := Aside0.mk (Kd.R_elder' (rz HO351) (Kd.R_base ho27) hb); replace HO355 := Aside0.mk (Kd.R_elder' (rz HO355) (Kd.R_base ho27) hb); replace HB := Aside0.mk (below_step bz hb); clear hb ho27) | ((with_reducible refine gate_builtin (b := .append) (xs := #[.tmp 36, .tmp 37]) rfl ?_); (try (refine gate_guard (by rfl) ?_; dsimp only)); at_builtin; refine Kd.R_append_rows (Kd.int .u8) (w0 := w) w.heap.size rfl (.tmp 36) (.tmp 37) 23 5 (.int .u8 0) 1 rfl Tryz.underlying23 info5 rfl (by decide) (by omega) v357 y356 l1 _ _ _ (fun k_ => some k_ ≠ (v350 : Value).ownBlock ∧ some k_ ≠ (v354 : Value).ownBlock) (fun _ => False) rfl rfl ?aO ?aR (fun _ _ h => h) (fun _ h => h.elim) ?aF ?aB ?aS ?aL ?_; (case aR => exact cz (Kd.C_below HR1.out HB.out)); (case aB => exact bz); (case aF => exact (fun k_ hk => ⟨Kd.fresh' (Kd.R_lt (rz HO351)) k_ hk, Kd.fresh' (Kd.R_lt (rz HO355)) k_ hk⟩)); (case aO => exact (by (with_reducible repeat (first | apply Kd.R_alloc | apply Kd.R_drewN | apply Kd.R_drew)); exact Kd.R_mono HO358.out (fun _ hk => ⟨hk.1.2, hk.2⟩))); (case aS => exact (below_size bz)); (case aL => have := LMc10.out; omega); intro v360 w28 ho hb hg hat; rw [← Ny359.out] at ho; replace HO347 := Aside0.mk (Kd.S_after (ok := (fun k_ => some k_ ≠ (v350 : Value).ownBlock ∧ some k_ ≠ (v354 : Value).ownBlock)) (by (with_reducible repeat (first | apply Kd.S_alloc | apply Kd.S_drewN | apply Kd.S_drew)); exact Kd.S_mono HO347.out (fun _ hk => ⟨⟨hk.1.1.2, hk.1.2⟩, hk.2⟩)) hg hat); replace HO351 := Aside0.mk (Kd.R_after (ok := (fun k_ => some k_ ≠ (v354 : Value).ownBlock)) (by (with_reducible repeat (first | apply Kd.R_alloc | apply Kd.R_drewN | apply Kd.R_drew)); exact Kd.R_mono HO351.out (fun _ hk => ⟨hk.1.2, hk.2⟩)) hg hat); replace HO355 := Aside0.mk (Kd.R_after (ok := (fun k_ => some k_ ≠ (v350 : Value).ownBlock)) (by (with_reducible repeat (first | apply Kd.R_alloc | apply Kd.R_drewN | apply Kd.R_drew)); exact Kd.R_mono HO355.out (fun _ hk => ⟨hk.1.2, hk.2⟩)) hg hat); replace HB := Aside0.mk (hb); have HO361 := Aside0.mk (ho); clear HO358; clear ho hb hg hat; obtain ⟨Ao29, co29, eo29⟩ := Kd.R_slice HO361.out; subst eo29) | ((with_reducible refine gate_callee (f := 10) rfl ?_); refine goesL_ (some 39) rfl rfl Tryz.func10 (by kernel_rfl) rfl #[.slice Ao29 y359.length co29] rfl lz ?_; (with_reducible refine (log_Read.calls kj2 _ _ y359 t362 t363 t364 _ ?side1 ?side2 A11.out).mono ?_); (case side1 => exact cz ((Kd.R_reads' HO361.out).2.2)); (case side2 => exact (Kd.R_reads' HO361.out).2.1); rintro e w30 ⟨v365, rfl, ho0, hb⟩; refine ⟨_, rfl, ?_⟩; have HO366 := Aside0.mk (Kd.S_lower (Kd.S_new' (Kd.S_new' (Kd.S_new' (Kd.S_new' ho0 (Kd.S_lt (sz HO347))) (Kd.R_lt (rz HO351))) (Kd.R_lt (rz HO355))) (Kd.R_lt (rz HO361))) (below_size bz)); replace HO347 := Aside0.mk (Kd.S_elder' (sz HO347) (Kd.S_base ho0) hb); replace HO351 := Aside0.mk (Kd.R_below (rz HO351) hb); replace HO355 := Aside0.mk (Kd.R_below (rz HO355) hb); replace HO361 := Aside0.mk (Kd.R_below (rz HO361) hb); replace HB := Aside0.mk (below_step bz hb); (try clear hb); (try clear hb2); (try clear hk); (try clear hi); (try clear ho0)) | ((with_reducible refine gate_callee (f := 11) rfl ?_); refine goesL_ (some 45) rfl rfl Tryz.func11 (by kernel_rfl) rfl #[.slice A1 l1.length c1] rfl lz ?_; (with_reducible refine (riposteref26_Read.calls kj2 _ _ l1 t367 t368 t369 _ ?side1 ?side2 A12.out).mono ?_); (case side1 => exact cz (Kd.C_below HR1.out HB.out)); (case side2 => exact HC1.out); rintro e w31 ⟨v370, rfl, ho0, hb⟩; refine ⟨_, rfl, ?_⟩; have HO371 := Aside0.mk (Kd.S_lower (Kd.S_new' (Kd.S_new' (Kd.S_new' (Kd.S_new' (Kd.S_new' ho0 (Kd.S_lt (sz HO347))) (Kd.R_lt (rz HO351))) (Kd.R_lt (rz HO355))) (Kd.R_lt (rz HO361))) (Kd.S_lt (sz HO366))) (below_size bz)); replace HO347 := Aside0.mk (Kd.S_elder' (sz HO347) (Kd.S_base ho0) hb); replace HO351 := Aside0.mk (Kd.R_below (rz HO351) hb); replace HO355 := Aside0.mk (Kd.R_below (rz HO355) hb); replace HO361 := Aside0.mk (Kd.R_below (rz HO361) hb); replace HO366 := Aside0.mk (Kd.S_elder' (sz HO366) (Kd.S_base ho0) hb); replace HB := Aside0.mk (below_step bz hb); (try clear hb); (try clear hb2); (try clear hk); (try clear hi); (try clear ho0); have hcv32 := own_string (P := Tryz.prog) Tryz.underlying23 Tryz.underlying5 Tryz.underlying9 (Kd.own_of_R HO351.out); have hcv33 := own_string (P := Tryz.prog) Tryz.underlying23 Tryz.underlying5 Tryz.underlying9 (Kd.own_of_R HO355.out); obtain ⟨Ao34, co34, eo34⟩ := Kd.S_slice HO366.out; subst eo34; obtain ⟨Ao35, co35, eo35⟩ := Kd.S_slice HO371.out; subst eo35) | (go_at_call 12; (with_reducible refine (riposteref26_SameEntries.calls kj2 _ _ t362 _ _ t367 true _ ?side1 ?side2 ?side3 ?side4 A15.out).mono ?_); (case side1 => exact cz ((Kd.S_reads' HO366.out).2.2)); (case side2 => exact (Kd.S_reads' HO366.out).2.1); (case side3 => exact cz ((Kd.S_reads' HO371.out).2.2)); (case side4 => exact (Kd.S_reads' HO371.out).2.1); rintro e w' ⟨rfl, ⟨nd, rfl⟩⟩) | ((with_reducible refine gate_dst (N := 75) rfl ?_); (try (refine gate_guard (by rfl) ?_; dsimp only)); refine Kd.R_lit (Kd.int .u8) _ 5 ?hg (N := 75) ?hd (xs := ([] : List Int)) (inner := []) (ok := fun _ => True) (okp := fun _ => True) ?hr ?hp (fun _ hk => hk) trivial (Below.refl _ _) (Nat.le_refl _) (by simp) ?_; (case hd => rfl); (case hg => rfl); (case hr => exact hz); (case hp => exact (Reps.none _ _)); intro v374 w36 ho37 hb hg_ hnew_; clear hg_ hnew_; (first | rw [← Ny373.out] at ho37 | (simp only [Int.reduceToNat] at ho37; rw [← Ny373.out] at ho37)); replace HO347 := Aside0.mk (Kd.S_elder' (sz HO347) (Kd.R_base ho37) hb); replace HO366 := Aside0.mk (Kd.S_elder' (sz HO366) (Kd.R_base ho37) hb); replace HO371 := Aside0.mk (Kd.S_elder' (sz HO371) (Kd.R_base ho37) hb); have HO375 := Aside0.mk (Kd.R_lower (Kd.R_new' (Kd.R_new' (Kd.R_new' ho37 (Kd.R_lt (rz HO351))) (Kd.R_lt (rz HO355))) (Kd.R_lt (rz HO361))) (below_size bz)); replace HO351 := Aside0.mk (Kd.R_elder' (rz HO351) (Kd.R_base ho37) hb); replace HO355 := Aside0.mk (Kd.R_elder' (rz HO355) (Kd.R_base ho37) hb); replace HO361 := Aside0.mk (Kd.R_elder' (rz HO361) (Kd.R_base ho37) hb); replace HB := Aside0.mk (below_step bz hb); clear hb ho37) | ((with_reducible refine gate_builtin (b := .append) (xs := #[.tmp 75, .tmp 76]) rfl ?_); (try (refine gate_guard (by rfl) ?_; dsimp only)); at_builtin; refine Kd.R_append_rows (Kd.int .u8) (w0 := w) w.heap.size rfl (.tmp 75) (.tmp 76) 23 5 (.int .u8 0) 1 rfl Tryz.underlying23 info5 rfl (by decide) (by omega) v374 y373 l1 _ _ _ (fun k_ => some k_ ≠ (v350 : Value).ownBlock ∧ some k_ ≠ (v354 : Value).ownBlock ∧ some k_ ≠ (.slice Ao29 y359.length co29 : Value).ownBlock) (fun _ => False) rfl rfl ?aO ?aR (fun _ _ h => h) (fun _ h => h.elim) ?aF ?aB ?aS ?aL ?_; (case aR => exact cz (Kd.C_below HR1.out HB.out)); (case aB => exact bz); (case aF => exact (fun k_ hk => ⟨Kd.fresh' (Kd.R_lt (rz HO351)) k_ hk, Kd.fresh' (Kd.R_lt (rz HO355)) k_ hk, Kd.fresh' (Kd.R_lt (rz HO361)) k_ hk⟩)); (case aO => exact (by (with_reducible repeat (first | apply Kd.R_alloc | apply Kd.R_drewN | apply Kd.R_drew)); exact Kd.R_mono HO375.out (fun _ hk => ⟨hk.1.1.2, ⟨hk.1.2, hk.2⟩⟩))); (case aS => exact (below_size bz)); (case aL => have := LMc19.out; omega); intro v377 w38 ho hb hg hat; rw [← Ny376.out] at ho; replace HO347 := Aside0.mk (Kd.S_after (ok := (fun k_ => some k_ ≠ (v350 : Value).ownBlock ∧ some k_ ≠ (v354 : Value).ownBlock ∧ some k_ ≠ (.slice Ao29 y359.length co29 : Value).ownBlock ∧ some k_ ≠ (.slice Ao34 t362.length co34 : Value).ownBlock ∧ some k_ ≠ (.slice Ao35 t367.length co35 : Value).ownBlock)) (by (with_reducible repeat (first | apply Kd.S_alloc | apply Kd.S_drewN | apply Kd.S_drew)); exact Kd.S_mono HO347.out (fun _ hk => ⟨⟨hk.1.1.1.1.1, ⟨hk.1.1.1.1.2, ⟨hk.1.1.1.2, ⟨hk.1.1.2, hk.1.2⟩⟩⟩⟩, hk.2⟩)) hg hat); replace HO351 := Aside0.mk (Kd.R_after (ok := (fun k_ => some k_ ≠ (v354 : Value).ownBlock ∧ some k_ ≠ (.slice Ao29 y359.length co29 : Value).ownBlock)) (rz HO351) hg hat); replace HO355 := Aside0.mk (Kd.R_after (ok := (fun k_ => some k_ ≠ (v350 : Value).ownBlock ∧ some k_ ≠ (.slice Ao29 y359.length co29 : Value).ownBlock)) (rz HO355) hg hat); replace HO361 := Aside0.mk (Kd.R_after (ok := (fun k_ => some k_ ≠ (v350 : Value).ownBlock ∧ some k_ ≠ (v354 : Value).ownBlock)) (rz HO361) hg hat); replace HO366 := Aside0.mk (Kd.S_after (ok := (fun k_ => some k_ ≠ (.slice Ao23 t345.length co23 : Value).ownBlock ∧ some k_ ≠ (v350 : Value).ownBlock ∧ some k_ ≠ (v354 : Value).ownBlock ∧ some k_ ≠ (.slice Ao29 y359.length co29 : Value).ownBlock ∧ some k_ ≠ (.slice Ao35 t367.length co35 : Value).ownBlock)) (by (with_reducible repeat (first | apply Kd.S_alloc | apply Kd.S_drewN | apply Kd.S_drew)); exact Kd.S_mono HO366.out (fun _ hk => ⟨⟨hk.1.1.1.1.1.2, ⟨hk.1.1.1.1.2, ⟨hk.1.1.1.2, ⟨hk.1.1.2, hk.1.2⟩⟩⟩⟩, hk.2⟩)) hg hat); replace HO371 := Aside0.mk (Kd.S_after (ok := (fun k_ => some k_ ≠ (.slice Ao23 t345.length co23 : Value).ownBlock ∧ some k_ ≠ (v350 : Value).ownBlock ∧ some k_ ≠ (v354 : Value).ownBlock ∧ some k_ ≠ (.slice Ao29 y359.length co29 : Value).ownBlock ∧ some k_ ≠ (.slice Ao34 t362.length co34 : Value).ownBlock)) (by (with_reducible repeat (first | apply Kd.S_alloc | apply Kd.S_drewN | apply Kd.S_drew)); exact Kd.S_mono HO371.out (fun _ hk => ⟨⟨hk.1.1.1.1.1.2, ⟨hk.1.1.1.1.2, ⟨hk.1.1.1.2, ⟨hk.1.1.2, hk.1.2⟩⟩⟩⟩, hk.2⟩)) hg hat); replace HB := Aside0.mk (hb); have HO378 := Aside0.mk (ho); clear HO375; clear ho hb hg hat; obtain ⟨Ao39, co39, eo39⟩ := Kd.R_slice HO378.out; subst eo39) | (go_at_call 13; (with_reducible refine (log_Sum.calls kj2 _ _ y376 t379 _ ?side1 ?side2 A20.out).mono ?_); (case side1 => exact cz ((Kd.R_reads' HO378.out).2.2)); (case side2 => exact (Kd.R_reads' HO378.out).2.1); rintro e w' ⟨rfl, ⟨nd, rfl⟩⟩) | (go_at_call 14; (with_reducible refine (riposteref26_Sum.calls kj2 _ _ l1 t380 _ ?side1 ?side2 A21.out).mono ?_); (case side1 => exact cz (Kd.C_below HR1.out bz)); (case side2 => exact HC1.out); rintro e w' ⟨rfl, ⟨nd, rfl⟩⟩) | ((with_reducible refine gate_callee (f := 6) rfl ?_); refine goesL_ (some 84) rfl rfl Tryz.func6 (by kernel_rfl) rfl #[] rfl (by (try simp only [List.map_toArray, List.map_cons, List.map_nil]); first | done | rfl) ?_; (with_reducible refine (AW.out _ bz).mono ?_); rintro e w' ⟨rfl, hb⟩; refine ⟨_, rfl, ?_⟩; have HF := Aside0.mk (B0.step bz hb); clear hb) | (go_at_call 6; (with_reducible refine (AW.out _ bz).mono ?_); rintro e w' ⟨rfl, hb⟩; have HF := Aside0.mk (B0.step bz hb); clear hb))
   go_ret
   exact ⟨xz, HF.out⟩
end Go.Proofs.YthjedmfjmllboaaGreatDoor.PB
namespace Go.Proofs.YthjedmfjmllboaaGreatDoor.PB
open Go.RowKit Go.Proofs.YthjedmfjmllboaaGreatDoorW.PrintWords Go.Proofs.YthjedmfjmllboaaGreatDoorW.PrintLast
theorem w64 {n : Int} (h0 : -9223372036854775808 ≤ n) (h1 : n ≤ 9223372036854775807) : wrap64 n = n := by unfold wrap64; omega
def sumFrom : List Int → Int → Int → Int
  | [], x, _ => x
  | b :: r, x, i => sumFrom r (Int.tmod (wrap64 (x + wrap64 (wrap64 (i + 1) * wrap64 (wrap64 b + 1)))) 65521) (i + 1)
def sumS (l : List Int) : Int := sumFrom l 0 0
theorem rd_drop {l : List Int} {i : Int} (h0 : 0 ≤ i) (h1 : i < (l.length : Int)) : l.drop i.toNat = rd l i :: l.drop (i + 1).toNat := by
 have hi : i.toNat < l.length := by omega
 rw [List.drop_eq_getElem_cons hi]; have : (i + 1).toNat = i.toNat + 1 := by omega
 rw [this]; simp [rd, List.getD_eq_getElem?_getD, List.getElem?_eq_getElem hi]
theorem refSum_l0 (l : List Int) (hl : l.length ≤ 4611686018427387904) : ∀ (d k : Nat) (x i : Int), 0 ≤ i → i ≤ l.length → (l.length : Int) - i = d → d < k → riposteref26_Sum.l0 k l x i = some (sumFrom (l.drop i.toNat) x i) := by
 intro d; induction d with
 | zero =>
  intro k x i h0 h1 hd hk; obtain ⟨k, rfl⟩ : ∃ m, k = m + 1 := ⟨k - 1, by omega⟩
  simp only [riposteref26_Sum.l0]; rw [if_neg (by omega), List.drop_eq_nil_of_le (by omega)]; rfl
 | succ d ih =>
  intro k x i h0 h1 hd hk; obtain ⟨k, rfl⟩ : ∃ m, k = m + 1 := ⟨k - 1, by omega⟩
  have hlt : i < (l.length : Int) := by omega
  simp only [riposteref26_Sum.l0]; rw [if_pos hlt, if_pos h0, rd_drop h0 hlt]; have hw : wrap64 (i + 1) = i + 1 := w64 (by omega) (by omega); rw [hw, ih k _ (i + 1) (by omega) (by omega) (by omega) (by omega)]; simp only [sumFrom]; rw [hw]
theorem refSum (l : List Int) (hl : l.length ≤ 4611686018427387904) {k : Nat} (hk : l.length < k) : riposteref26_Sum.f k l = some (sumS l) := by
 unfold riposteref26_Sum.f sumS; rw [refSum_l0 l hl l.length k 0 0 (by omega) (by omega) (by omega) hk]; rfl
theorem logSum_l0 (l : List Int) : ∀ (k : Nat) (x i : Int), log_Sum.l0 k x l (l.length : Int) i = riposteref26_Sum.l0 k l x i := by
 intro k; induction k with
 | zero => intro x i; rfl
 | succ k ih =>
  intro x i; simp only [log_Sum.l0, riposteref26_Sum.l0]; split
  · split
    · rw [ih, Int.mul_comm]
    · rfl
  · rfl
theorem logSum_eq (k : Nat) (l : List Int) : log_Sum.f k l = riposteref26_Sum.f k l := logSum_l0 l k 0 0
theorem logSum (l : List Int) (hl : l.length ≤ 4611686018427387904) {k : Nat} (hk : l.length < k) : log_Sum.f k l = some (sumS l) := by rw [logSum_eq, refSum l hl hk]
def two (n : Int) : List Int := [(wrap64 (Int.tdiv n 256)) % 256, (Int.tmod n 256) % 256]
theorem logTwo (n : Int) : log_two.f n = some (two n) := rfl
theorem refTwo (n : Int) : riposteref26_two.f n = some (two n) := rfl
theorem two_len (n : Int) : (two n).length = 2 := rfl
def inner (e : S59) : List Int := if e.f0 = 2 then [e.f3.f0 % 256, e.f3.f1 % 256, e.f3.f2, (wrap64 (e.f3.f3 + 1)) % 256] else e.f2
def body (e : S59) : List Int := ([e.f0, e.f1 % 256] ++ two (inner e).length) ++ inner e
def enc (e : S59) : List Int := body e ++ two (sumS (body e))
theorem body_len (e : S59) : (body e).length = 4 + (inner e).length := by simp [body, two]; omega
theorem enc_len (e : S59) : (enc e).length = 6 + (inner e).length := by simp [enc, body_len, two]; omega
theorem inner_len (e : S59) : (inner e).length ≤ e.f2.length + 4 := by unfold inner; split <;> simp
theorem refEnc (e : S59) (h : e.f2.length ≤ 1000000) {k : Nat} (hk : e.f2.length + 10 < k) :
    riposteref26_EntryBytes.f k e.f0 e.f1 e.f2 e.f3.f0 e.f3.f1 e.f3.f2 e.f3.f3 = some (enc e) := by
 unfold riposteref26_EntryBytes.f; simp only [Option.bind_some, List.nil_append, List.length_nil, refTwo]; rw [if_pos (by omega)]; by_cases h2 : e.f0 = 2; rotate_left
 · rw [if_neg h2]; have hb : body e = [e.f0, e.f1 % 256] ++ two (e.f2.length : Int) ++ e.f2 := by simp [body, inner, h2]
   simp only [List.length_cons, List.length_nil, List.length_append, two_len]; rw [if_pos (by omega), if_pos (by omega), ← hb]; have hl := body_len e; have hi := inner_len e; rw [refSum (body e) (by omega) (by omega)]; simp only [Option.bind_some, two_len]; rw [if_pos (by omega)]; rfl
 rw [if_pos h2]
 have hb : body e = [e.f0, e.f1 % 256] ++ two (4 : Nat) ++ [e.f3.f0 % 256, e.f3.f1 % 256, e.f3.f2, (wrap64 (e.f3.f3 + 1)) % 256] := by
   simp [body, inner, h2]
 simp only [List.length_cons, List.length_nil, List.length_append, two_len]; rw [if_pos (by omega), if_pos (by omega)]; have hl := body_len e; rw [show ([e.f0, e.f1 % 256] ++ two ((0 + 1 + 1 + 1 + 1 : Nat) : Int) ++ [e.f3.f0 % 256, e.f3.f1 % 256, e.f3.f2, (wrap64 (e.f3.f3 + 1)) % 256]) = body e from hb.symm]; have hi := inner_len e; rw [refSum (body e) (by omega) (by omega)]; simp only [Option.bind_some, two_len]; rw [if_pos (by omega)]; rfl
theorem logEnc_eq (k : Nat) (e : S59) (h : e.f0 = 1 ∨ e.f0 = 2) :
    log_entryBytes.f k e.f0 e.f1 e.f2 e.f3.f0 e.f3.f1 e.f3.f2 e.f3.f3 = riposteref26_EntryBytes.f k e.f0 e.f1 e.f2 e.f3.f0 e.f3.f1 e.f3.f2 e.f3.f3 := by
 unfold log_entryBytes.f riposteref26_EntryBytes.f; simp only [Option.bind_some, logSum_eq, logTwo, refTwo]; rcases h with h | h
 · rw [if_pos h, if_neg (show ¬ e.f0 = 2 by omega)]
 · rw [if_neg (show ¬ e.f0 = 1 by omega), if_pos h]
def Byte (x : Int) : Prop := 0 ≤ x ∧ x ≤ 255
instance (x : Int) : Decidable (Byte x) := inferInstanceAs (Decidable (0 ≤ x ∧ x ≤ 255))
def I64 (x : Int) : Prop := -9223372036854775808 ≤ x ∧ x ≤ 9223372036854775807
structure OkE (e : S59) : Prop where
  k : Byte e.f0
  f : I64 e.f1
  b : ∀ x ∈ e.f2, Byte x
  i : I64 e.f3.f0
  a : I64 e.f3.f1
  m : Byte e.f3.f2
  n : I64 e.f3.f3
def isE (e : S59) : Bool :=
  if e.f0 = 1 then decide (0 ≤ e.f1 ∧ e.f1 ≤ 3 ∧ 1 ≤ e.f2.length ∧ e.f2.length ≤ 2000) && (e.f3.f0 == 0 && (e.f3.f1 == 0 && (e.f3.f2 == 0 && e.f3.f3 == 0)))
  else if e.f0 = 2 then decide (e.f1 = 0 ∧ e.f2.length = 0 ∧ Byte e.f3.f0 ∧ Byte e.f3.f1 ∧ 1 ≤ e.f3.f2 ∧ e.f3.f2 ≤ 3 ∧ -1 ≤ e.f3.f3 ∧ e.f3.f3 ≤ 254)
  else false
theorem refIs (e : S59) (o : OkE e) : riposteref26_IsEntry.f e.f0 e.f1 e.f2 e.f3.f0 e.f3.f1 e.f3.f2 e.f3.f3 = some (isE e) := by
 have hm := o.m; unfold Byte at hm; unfold riposteref26_IsEntry.f isE riposteref16_In.f; rw [w64 (n := e.f3.f2) (by omega) (by omega)]; by_cases h1 : e.f0 = 1
 · simp only [if_pos h1]; by_cases a1 : e.f1 ≥ 0; rotate_left
   · simp [a1, show ¬ 0 ≤ e.f1 from a1]
   by_cases a2 : e.f1 ≤ 3; rotate_left
   · simp [a1, a2]
   by_cases a3 : (e.f2.length : Int) ≥ 1; rotate_left
   · simp [a1, a2, a3, show ¬ 1 ≤ e.f2.length by omega]
   by_cases a4 : (e.f2.length : Int) ≤ 2000; rotate_left
   · simp [a1, a2, a3, a4, show ¬ e.f2.length ≤ 2000 by omega]
   simp [a1, a2, a3, a4, show 0 ≤ e.f1 from a1, show 1 ≤ e.f2.length by omega, show e.f2.length ≤ 2000 by omega]
 simp only [if_neg h1]; by_cases h2 : e.f0 = 2; rotate_left
 · simp [h2]
 simp only [if_pos h2]; by_cases a1 : e.f1 = 0; rotate_left
 · simp [a1]
 by_cases a2 : (e.f2.length : Int) = 0; rotate_left
 · simp [a1, a2, show ¬ e.f2.length = 0 by omega]
 have a2' : e.f2.length = 0 := by omega
 simp only [a1, a2', Byte]; by_cases b1 : e.f3.f0 ≥ 0 <;> by_cases b2 : e.f3.f0 ≤ 255 <;> by_cases b3 : e.f3.f1 ≥ 0 <;> by_cases b4 : e.f3.f1 ≤ 255 <;> by_cases b5 : e.f3.f2 ≥ 1 <;> by_cases b6 : e.f3.f2 ≤ 3 <;> by_cases b7 : e.f3.f3 ≥ -1 <;> simp [b1, b2, b3, b4, b5, b6, b7] <;> omega
theorem logIs (e : S59) (o : OkE e) : log_isEntry.f e.f0 e.f1 e.f2 e.f3.f0 e.f3.f1 e.f3.f2 e.f3.f3 = some (isE e) := by
 have hm := o.m; have hn := o.n; unfold Byte at hm; unfold I64 at hn; unfold log_isEntry.f isE log_isSite.f log_isMove.f; by_cases h1 : e.f0 = 1
 · simp only [if_pos h1]; by_cases a1 : e.f1 ≥ 0; rotate_left
   · simp [a1, show ¬ 0 ≤ e.f1 from a1]
   by_cases a2 : e.f1 < 4; rotate_left
   · simp [a1, a2, show ¬ e.f1 ≤ 3 by omega]
   by_cases a3 : (e.f2.length : Int) > 0; rotate_left
   · simp [a1, a2, show ¬ (0 < e.f2.length) by omega, show ¬ 1 ≤ e.f2.length by omega]
   by_cases a4 : (e.f2.length : Int) ≤ 2000; rotate_left
   · simp [a1, a2, a3, a4, show ¬ e.f2.length ≤ 2000 by omega]
   have ne : e.f2 ≠ [] := fun h => by simp [h] at a3
   simp [a1, a2, a4, ne, show 0 ≤ e.f1 from a1, show e.f1 ≤ 3 by omega, show 1 ≤ e.f2.length by omega, show e.f2.length ≤ 2000 by omega]
 simp only [if_neg h1]; by_cases h2 : e.f0 = 2; rotate_left
 · simp [h2]
 simp only [if_pos h2]; by_cases a1 : e.f1 = 0; rotate_left
 · simp [a1]
 by_cases a2 : (e.f2.length : Int) = 0; rotate_left
 · simp [a1, a2, show ¬ e.f2.length = 0 by omega]
 have a2' : e.f2.length = 0 := by omega
 simp only [a1, a2', Byte]; have hw : (0 ≤ wrap64 (e.f3.f3 + 1) ∧ wrap64 (e.f3.f3 + 1) ≤ 255) ↔ (-1 ≤ e.f3.f3 ∧ e.f3.f3 ≤ 254) := by unfold wrap64; omega
 by_cases b1 : e.f3.f0 ≥ 0 <;> by_cases b2 : e.f3.f0 ≤ 255 <;> by_cases b3 : e.f3.f1 ≥ 0 <;> by_cases b4 : e.f3.f1 ≤ 255 <;> by_cases b5 : e.f3.f2 ≥ 1 <;> by_cases b7 : wrap64 (e.f3.f3 + 1) ≥ 0 <;> by_cases b8 : wrap64 (e.f3.f3 + 1) ≤ 255 <;> simp [b1, b2, b3, b4, b5, b7, b8] <;> omega
theorem isE_kind {e : S59} (h : isE e = true) : e.f0 = 1 ∨ e.f0 = 2 := by
 unfold isE at h; split at h
 · left; assumption
 · split at h
   · right; assumption
   · cases h
end Go.Proofs.YthjedmfjmllboaaGreatDoor.PB
namespace Go.Proofs.YthjedmfjmllboaaGreatDoor.PB
open Go.RowKit Go.Proofs.YthjedmfjmllboaaGreatDoorW.PrintWords Go.Proofs.YthjedmfjmllboaaGreatDoorW.PrintLast
theorem rdT_drop {l : List S59} {i : Int} (h0 : 0 ≤ i) (h1 : i < (l.length : Int)) : l.drop i.toNat = rd_T59 l i :: l.drop (i + 1).toNat := by
 have hi : i.toNat < l.length := by omega
 rw [List.drop_eq_getElem_cons hi]; have : (i + 1).toNat = i.toNat + 1 := by omega
 rw [this]; simp [rd_T59, List.getD_eq_getElem?_getD, List.getElem?_eq_getElem hi]
theorem rdT_mem {l : List S59} {i : Int} (h0 : 0 ≤ i) (h1 : i < (l.length : Int)) : rd_T59 l i ∈ l := by
 have := rdT_drop h0 h1; have h2 : rd_T59 l i ∈ l.drop i.toNat := by rw [this]; exact List.mem_cons_self
 exact List.mem_of_mem_drop h2
theorem copy_l0 (l : List S59) (hl : l.length ≤ 1000000) (hb : ∀ e ∈ l, e.f2.length ≤ 1000000) : ∀ (d k : Nat) (x : List S59) (i : Int), 0 ≤ i → i ≤ l.length → (l.length : Int) - i = d → d < k → x.length + d ≤ 1000000 →
    riposteref26_CopyEntries.l0 k l x i = some (x ++ l.drop i.toNat) := by
 intro d; induction d with
 | zero =>
  intro k x i h0 h1 hd hk _; obtain ⟨k, rfl⟩ : ∃ m, k = m + 1 := ⟨k - 1, by omega⟩
  simp only [riposteref26_CopyEntries.l0]; rw [if_neg (by omega), List.drop_eq_nil_of_le (by omega), List.append_nil]
 | succ d ih =>
  intro k x i h0 h1 hd hk hx; obtain ⟨k, rfl⟩ : ∃ m, k = m + 1 := ⟨k - 1, by omega⟩
  have hlt : i < (l.length : Int) := by omega
  have hm := hb _ (rdT_mem h0 hlt); simp only [riposteref26_CopyEntries.l0]; rw [if_pos hlt, if_pos h0, if_pos (by simp; omega), if_pos (by omega), rdT_drop h0 hlt]; have hw : wrap64 (i + 1) = i + 1 := w64 (by omega) (by omega); rw [hw, ih k _ (i + 1) (by omega) (by omega) (by omega) (by omega) (by simp; omega)]; simp
theorem copyEntries (l : List S59) (hl : l.length ≤ 1000000) (hb : ∀ e ∈ l, e.f2.length ≤ 1000000) {k : Nat} (hk : l.length < k) : riposteref26_CopyEntries.f k l = some l := by
 unfold riposteref26_CopyEntries.f; rw [copy_l0 l hl hb l.length k [] 0 (by omega) (by omega) (by omega) hk (by simp; exact hl)]; rfl
def bytesR : List S59 → List Int → List Int × Int
  | [], a => if (a.length : Int) > 60000 then ([], 5) else (a, 0)
  | e :: r, a => if isE e = true then bytesR r (a ++ enc e) else ([], 4)
def bytesL : List S59 → List Int → List Int × Int
  | [], a => (a, 0)
  | e :: r, a => if ((a ++ enc e).length : Int) > 60000 then ([], 5) else bytesL r (a ++ enc e)
theorem bytesR_long : ∀ (l : List S59) (a : List Int), (∀ e ∈ l, isE e = true) → (a.length : Int) > 60000 → bytesR l a = ([], 5)
  | [], a, _, h => by simp [bytesR]; omega
  | e :: r, a, hl, h => by
    rw [bytesR, if_pos (hl e (by simp))]
    exact bytesR_long r _ (fun x hx => hl x (by simp [hx])) (by simp; omega)
theorem bytesR_all : ∀ (l : List S59) (a : List Int), (∀ e ∈ l, isE e = true) → (a.length : Int) ≤ 60000 → bytesR l a = bytesL l a
  | [], a, _, h => by simp [bytesR, bytesL]; omega
  | e :: r, a, hl, h => by
    rw [bytesR, if_pos (hl e (by simp)), bytesL]
    split
    · exact bytesR_long r _ (fun x hx => hl x (by simp [hx])) (by assumption)
    · exact bytesR_all r _ (fun x hx => hl x (by simp [hx])) (by omega)
theorem bytesR_odd : ∀ (l : List S59) (a : List Int), (∃ e ∈ l, isE e = false) → bytesR l a = ([], 4)
  | [], _, h => by obtain ⟨e, h, _⟩ := h; simp at h
  | e :: r, a, h => by
    rw [bytesR]
    by_cases he : isE e = true
    · rw [if_pos he]
      obtain ⟨x, hx, h2⟩ := h
      rcases List.mem_cons.1 hx with rfl | hx
      · rw [he] at h2; cases h2
      · exact bytesR_odd r _ ⟨x, hx, h2⟩
    · rw [if_neg he]
structure Okl (l : List S59) : Prop where
  len : l.length ≤ 1000
  ok : ∀ e ∈ l, OkE e
  small : ∀ e ∈ l, e.f2.length ≤ 3000
theorem refBytes_l0 (l : List S59) (o : Okl l) : ∀ (d k : Nat) (a : List Int) (i : Int), 0 ≤ i → i ≤ l.length → (l.length : Int) - i = d → d + 4000 < k → a.length + d * 4000 ≤ 100000000 →
    riposteref26_Bytes.l0 k l a i = some (bytesR (l.drop i.toNat) a) := by
 have ol := o.len; intro d; induction d with
 | zero =>
  intro k x i h0 h1 hd hk _; obtain ⟨k, rfl⟩ : ∃ m, k = m + 1 := ⟨k - 1, by omega⟩
  simp only [riposteref26_Bytes.l0]; rw [if_neg (by omega), List.drop_eq_nil_of_le (by omega)]; simp only [bytesR]; split <;> rfl
 | succ d ih =>
  intro k x i h0 h1 hd hk hx; obtain ⟨k, rfl⟩ : ∃ m, k = m + 1 := ⟨k - 1, by omega⟩
  have hlt : i < (l.length : Int) := by omega
  have hmem := rdT_mem h0 hlt; have hsm := o.small _ hmem; simp only [riposteref26_Bytes.l0]; rw [if_pos hlt, if_pos h0, refIs _ (o.ok _ hmem), rdT_drop h0 hlt]; simp only [Option.bind_some, bytesR]; split
  · rw [refEnc _ (by omega) (by omega)]; simp only [Option.bind_some]; have he := enc_len (rd_T59 l i); have hi := inner_len (rd_T59 l i); rw [if_pos (by omega)]; have hw : wrap64 (i + 1) = i + 1 := w64 (by omega) (by omega); rw [hw, ih k _ (i + 1) (by omega) (by omega) (by omega) (by omega) (by simp; omega)]
  · rfl
theorem logBytes_l1 (l : List S59) (o : Okl l) (hall : ∀ e ∈ l, isE e = true) : ∀ (d k : Nat) (a : List Int) (i : Int), 0 ≤ i → i ≤ l.length → (l.length : Int) - i = d → d + 4000 < k → a.length + d * 4000 ≤ 100000000 →
    log_Bytes.l1 k a l (l.length : Int) i = some (bytesL (l.drop i.toNat) a) := by
 have ol := o.len; intro d; induction d with
 | zero =>
  intro k x i h0 h1 hd hk _; obtain ⟨k, rfl⟩ : ∃ m, k = m + 1 := ⟨k - 1, by omega⟩
  simp only [log_Bytes.l1]; rw [if_neg (by omega), List.drop_eq_nil_of_le (by omega)]; rfl
 | succ d ih =>
  intro k x i h0 h1 hd hk hx; obtain ⟨k, rfl⟩ : ∃ m, k = m + 1 := ⟨k - 1, by omega⟩
  have hlt : i < (l.length : Int) := by omega
  have hmem := rdT_mem h0 hlt; have hsm := o.small _ hmem; simp only [log_Bytes.l1]; rw [if_pos hlt, if_pos h0, if_pos hlt, logEnc_eq _ _ (isE_kind (hall _ hmem)), refEnc _ (by omega) (by omega), rdT_drop h0 hlt]; simp only [Option.bind_some, bytesL]; have he := enc_len (rd_T59 l i); have hi := inner_len (rd_T59 l i); rw [if_pos (by omega)]; split
  · rfl
  · have hw : wrap64 (i + 1) = i + 1 := w64 (by omega) (by omega); rw [hw, ih k _ (i + 1) (by omega) (by omega) (by omega) (by omega) (by simp; omega)]
theorem logBytes_l0 (l : List S59) (o : Okl l) : ∀ (d k : Nat) (i : Int), 0 ≤ i → i ≤ l.length → (l.length : Int) - i = d → d + l.length + 5000 < k → (∀ e ∈ l.take i.toNat, isE e = true) →
    log_Bytes.l0 k l [] l (l.length : Int) i = some (if (∀ e ∈ l, isE e = true) then bytesL l [] else ([], 4)) := by
 have ol := o.len; intro d; induction d with
 | zero =>
  intro k i h0 h1 hd hk hpre; obtain ⟨k, rfl⟩ : ∃ m, k = m + 1 := ⟨k - 1, by omega⟩
  simp only [log_Bytes.l0]; have hall : ∀ e ∈ l, isE e = true := by rw [List.take_of_length_le (by omega)] at hpre; exact hpre
  rw [if_neg (by omega), if_pos hall, logBytes_l1 l o hall l.length k [] 0 (by omega) (by omega) (by omega) (by omega) (by simp; omega)]; rfl
 | succ d ih =>
  intro k i h0 h1 hd hk hpre; obtain ⟨k, rfl⟩ : ∃ m, k = m + 1 := ⟨k - 1, by omega⟩
  have hlt : i < (l.length : Int) := by omega
  have hmem := rdT_mem h0 hlt; simp only [log_Bytes.l0]; rw [if_pos hlt, if_pos h0, if_pos hlt, logIs _ (o.ok _ hmem)]; simp only [Option.bind_some]; by_cases he : isE (rd_T59 l i) = true; rotate_left
  · rw [if_neg he, if_neg (fun hall => he (hall _ hmem))]
  rw [if_pos he]; have hw : wrap64 (i + 1) = i + 1 := w64 (by omega) (by omega); rw [hw]; refine ih k (i + 1) (by omega) (by omega) (by omega) (by omega) fun e hm => ?_
  have ht : (i + 1).toNat = i.toNat + 1 := by omega
  rw [ht, List.take_add_one] at hm; rcases List.mem_append.1 hm with hm | hm
  · exact hpre e hm
  · have hi : i.toNat < l.length := by omega
    simp [List.getElem?_eq_getElem hi] at hm; subst hm; have : rd_T59 l i = l[i.toNat] := by simp [rd_T59, List.getD_eq_getElem?_getD, List.getElem?_eq_getElem hi]
    rw [← this]; exact he
theorem bytes_eq (l : List S59) (o : Okl l) : ∃ r, ∀ k, 10000 ≤ k → log_Bytes.f k l = some r ∧ riposteref26_Bytes.f k l = some r := by
 have ol := o.len; refine ⟨bytesR l [], fun k hk => ⟨?_, ?_⟩⟩
 · unfold log_Bytes.f; rw [logBytes_l0 l o l.length k 0 (by omega) (by omega) (by omega) (by omega) (by simp)]; congr 1; split
   · rename_i hall; exact (bytesR_all l [] hall (by simp)).symm
   · rename_i h; refine (bytesR_odd l [] ?_).symm; simpa using h
 · unfold riposteref26_Bytes.f; rw [refBytes_l0 l o l.length k [] 0 (by omega) (by omega) (by omega) (by omega) (by simp; omega)]; rfl
end Go.Proofs.YthjedmfjmllboaaGreatDoor.PB
namespace Go.Proofs.YthjedmfjmllboaaGreatDoor.PB
open Go.RowKit Go.Proofs.YthjedmfjmllboaaGreatDoorW.PrintWords Go.Proofs.YthjedmfjmllboaaGreatDoorW.PrintLast
theorem equal_l0 (x y : List Int) (hxy : x.length = y.length) (hl : x.length ≤ 1000000) : ∀ (d k : Nat) (i : Int), 0 ≤ i → i ≤ x.length → (x.length : Int) - i = d → d < k →
    slices_Equal_byte_byte.l0 k x y (x.length : Int) i = some (decide (x.drop i.toNat = y.drop i.toNat)) := by
 intro d; induction d with
 | zero =>
  intro k i h0 h1 hd hk; obtain ⟨k, rfl⟩ : ∃ m, k = m + 1 := ⟨k - 1, by omega⟩
  simp only [slices_Equal_byte_byte.l0]; rw [if_neg (by omega), List.drop_eq_nil_of_le (by omega), List.drop_eq_nil_of_le (by omega)]; rfl
 | succ d ih =>
  intro k i h0 h1 hd hk; obtain ⟨k, rfl⟩ : ∃ m, k = m + 1 := ⟨k - 1, by omega⟩
  have hlt : i < (x.length : Int) := by omega
  have hlt' : i < (y.length : Int) := by omega
  simp only [slices_Equal_byte_byte.l0]; rw [if_pos hlt, if_pos h0, if_pos hlt, if_pos hlt', rd_drop h0 hlt, rd_drop h0 hlt']; have hw : wrap64 (i + 1) = i + 1 := w64 (by omega) (by omega); split
  · rename_i he; rw [hw, ih k (i + 1) (by omega) (by omega) (by omega) (by omega)]; simp [he]
  · rename_i he; simp [he]
theorem equal_ok (x y : List Int) (hl : x.length ≤ 1000000) {k : Nat} (hk : x.length < k) : slices_Equal_byte_byte.f k x y = some (decide (x = y)) := by
 unfold slices_Equal_byte_byte.f; split
 · rename_i h; rw [equal_l0 x y (by omega) hl x.length k 0 (by omega) (by omega) (by omega) hk]; rfl
 · rename_i h; have : x ≠ y := fun e => h (by rw [e])
   simp [this]
theorem toByte_inj {a b : Int} (ha : Byte a) (hb : Byte b) (h : UInt8.ofNat a.toNat = UInt8.ofNat b.toNat) : a = b := by
 unfold Byte at ha hb; have := congrArg UInt8.toNat h; simp only [UInt8.toNat_ofNat'] at this; omega
theorem text_inj : ∀ (x y : List Int), (∀ a ∈ x, Byte a) → (∀ a ∈ y, Byte a) → ((x.map fun n => UInt8.ofNat n.toNat) = (y.map fun n => UInt8.ofNat n.toNat) ↔ x = y)
  | [], [], _, _ => by simp
  | [], _ :: _, _, _ => by simp
  | _ :: _, [], _, _ => by simp
  | a :: r, b :: s, hx, hy => by
    simp only [List.map_cons, List.cons.injEq]
    rw [text_inj r s (fun x h => hx x (by simp [h])) (fun x h => hy x (by simp [h]))]
    constructor
    · rintro ⟨h1, h2⟩; exact ⟨toByte_inj (hx a (by simp)) (hy b (by simp)) h1, h2⟩
    · rintro ⟨h1, h2⟩; exact ⟨by rw [h1], h2⟩
theorem text_eq (x y : List Int) (hx : ∀ a ∈ x, Byte a) (hy : ∀ a ∈ y, Byte a) : ((strOfNums x).toList = (strOfNums y).toList) ↔ x = y := by
 rw [Lib.strOfNums_toList, Lib.strOfNums_toList]; exact text_inj x y hx hy
theorem two_byte (n : Int) : ∀ a ∈ two n, Byte a := by
 intro a ha; simp only [two, List.mem_cons, List.not_mem_nil, or_false] at ha; unfold Byte; rcases ha with rfl | rfl <;> omega
theorem inner_byte {e : S59} (o : OkE e) : ∀ a ∈ inner e, Byte a := by
 intro a ha; unfold inner at ha; split at ha
 · have := o.m; simp only [List.mem_cons, List.not_mem_nil, or_false] at ha; unfold Byte at *; rcases ha with rfl | rfl | rfl | rfl <;> omega
 · exact o.b a ha
theorem body_byte {e : S59} (o : OkE e) : ∀ a ∈ body e, Byte a := by
 intro a ha; unfold body at ha; rcases List.mem_append.1 ha with ha | ha
 · rcases List.mem_append.1 ha with ha | ha
   · have := o.k; simp only [List.mem_cons, List.not_mem_nil, or_false] at ha; unfold Byte at *; rcases ha with rfl | rfl <;> omega
   · exact two_byte _ a ha
 · exact inner_byte o a ha
theorem enc_byte {e : S59} (o : OkE e) : ∀ a ∈ enc e, Byte a := by
 intro a ha; unfold enc at ha; rcases List.mem_append.1 ha with ha | ha
 · exact body_byte o a ha
 · exact two_byte _ a ha
abbrev R8 := Int × Int × List Int × Int × Int × Int × Int × Int
def tup (e : S59) (n : Int) : R8 := (e.f0, e.f1, e.f2, e.f3.f0, e.f3.f1, e.f3.f2, e.f3.f3, n)
def many (t : R8) : Int := t.2.2.2.2.2.2.2
def zero8 : R8 := (0, 0, [], 0, 0, 0, 0, 0)
def Alike (l : List Int) (t u : R8) : Prop := (many t = 0 ∧ many u = 0) ∨ (t = u ∧ 6 ≤ many t ∧ many t ≤ l.length ∧ ∃ e : S59, t = tup e (many t) ∧ OkE e)
theorem logJoint (l : List Int) (hl : l.length ≤ 5000) (e : S59) (o : OkE e) (n : Nat) (hn : n + 6 ≤ l.length) (k : Nat) (hk : 6000 ≤ k) :
    log_entry.j0 (k + 1) l ((4 : Int) + n) e.f0 e.f1 e.f2 e.f3.f0 e.f3.f1 e.f3.f2 e.f3.f3 = some (if isE e = true ∧ two (sumS (l.take (4 + n))) = (l.take (6 + n)).drop (4 + n) then tup e (6 + n) else tup e 0) := by
 have hw : wrap64 ((4 : Int) + n + 2) = 6 + n := by rw [w64 (by omega) (by omega)]; omega
 have e1 : ((4 : Int) + n).toNat = 4 + n := by omega
 have e2 : ((6 : Int) + n).toNat = 6 + n := by omega
 have hs := logSum (l.take (4 + n)) (by rw [List.length_take]; omega) (k := k) (by rw [List.length_take]; omega); have hq := equal_ok (two (sumS (l.take (4 + n)))) ((l.take (6 + n)).drop (4 + n)) (by rw [two_len]; omega) (k := k) (by rw [two_len]; omega); simp only [log_entry.j0]; rw [logIs e o]; by_cases he : isE e = true; rotate_left
 · simp only [Option.bind_some]; rw [if_neg he, if_neg (fun h => he h.1)]; rfl
 simp only [Option.bind_some, he, if_true, true_and]; rw [if_pos (by omega), if_pos (by omega), e1, hs]; rw [Option.bind_some, logTwo, Option.bind_some, hw, if_pos (by omega), if_pos (by omega), e2, hq, Option.bind_some]; by_cases hc : two (sumS (l.take (4 + n))) = (l.take (6 + n)).drop (4 + n)
 · rw [if_pos (decide_eq_true hc), if_pos hc]; rfl
 rw [if_neg (by simpa using hc), if_neg hc]; rfl
end Go.Proofs.YthjedmfjmllboaaGreatDoor.PB
namespace Go.Proofs.YthjedmfjmllboaaGreatDoor.PB
open Go.RowKit Go.Proofs.YthjedmfjmllboaaGreatDoorW.PrintWords Go.Proofs.YthjedmfjmllboaaGreatDoorW.PrintLast
theorem enc_iff (l : List Int) (e : S59) (n : Nat) (hn : n + 6 ≤ l.length) (hbd : body e = l.take (4 + n)) :
    enc e = l.take (6 + n) ↔ two (sumS (l.take (4 + n))) = (l.take (6 + n)).drop (4 + n) := by
 have hsplit : l.take (6 + n) = l.take (4 + n) ++ (l.take (6 + n)).drop (4 + n) := by
   have := List.take_append_drop (4 + n) (l.take (6 + n))
   rw [List.take_take, show min (4 + n) (6 + n) = 4 + n by omega] at this
   exact this.symm
 constructor
 · intro h; rw [hsplit] at h; unfold enc at h; rw [hbd] at h; exact List.append_cancel_left h
 · intro h; rw [hsplit]; unfold enc; rw [hbd, h]
theorem refJoint (l : List Int) (hl : l.length ≤ 5000) (hb : ∀ a ∈ l, Byte a) (e : S59) (o : OkE e) (hs : e.f2.length ≤ 5000) (n : Nat) (hn : n + 6 ≤ l.length) (hbd : isE e = true → body e = l.take (4 + n)) (k : Nat) (hk : 6000 ≤ k) :
    riposteref26_readEntry.j0 (k + 1) l ((6 : Int) + n) e.f0 e.f1 e.f2 e.f3.f0 e.f3.f1 e.f3.f2 e.f3.f3 = some (if isE e = true ∧ two (sumS (l.take (4 + n))) = (l.take (6 + n)).drop (4 + n) then tup e (6 + n) else zero8) := by
 have e2 : ((6 : Int) + n).toNat = 6 + n := by omega
 have hr := refEnc e (by omega) (k := k) (by omega); simp only [riposteref26_readEntry.j0]; rw [refIs e o, Option.bind_some]; by_cases he : isE e = true; rotate_left
 · rw [if_neg he, if_neg (fun h => he h.1)]; rfl
 rw [if_pos he, hr, Option.bind_some, if_pos (by omega), if_pos (by omega), e2]; have hx := text_eq (enc e) (l.take (6 + n)) (enc_byte o) (fun a ha => hb a (List.mem_of_mem_take ha)); have hiff := enc_iff l e n hn (hbd he); by_cases hc : two (sumS (l.take (4 + n))) = (l.take (6 + n)).drop (4 + n)
 · rw [if_pos (hx.2 (hiff.2 hc)), if_pos ⟨he, hc⟩]; rfl
 rw [if_neg (fun h => hc (hiff.1 (hx.1 h))), if_neg (fun h => hc h.2)]; rfl
theorem joints (l : List Int) (hl : l.length ≤ 5000) (hb : ∀ a ∈ l, Byte a) (e : S59) (o : OkE e) (hs : e.f2.length ≤ 5000) (n : Nat) (hn : n + 6 ≤ l.length) (hbd : isE e = true → body e = l.take (4 + n)) :
    ∃ t u, Alike l t u ∧ ∀ k, 6000 ≤ k → log_entry.j0 (k + 1) l ((4 : Int) + n) e.f0 e.f1 e.f2 e.f3.f0 e.f3.f1 e.f3.f2 e.f3.f3 = some t ∧ riposteref26_readEntry.j0 (k + 1) l ((6 : Int) + n) e.f0 e.f1 e.f2 e.f3.f0 e.f3.f1 e.f3.f2 e.f3.f3 = some u := by
 refine ⟨_, _, ?_, fun k hk => ⟨logJoint l hl e o n hn k hk, refJoint l hl hb e o hs n hn hbd k hk⟩⟩; by_cases hc : isE e = true ∧ two (sumS (l.take (4 + n))) = (l.take (6 + n)).drop (4 + n); rotate_left
 · rw [if_neg hc, if_neg hc]; exact .inl ⟨rfl, rfl⟩
 rw [if_pos hc, if_pos hc]; exact .inr ⟨rfl, by simp only [many, tup]; omega, by simp only [many, tup]; omega, e, rfl, o⟩
theorem two_of {c d : Int} (hc : Byte c) (hd : Byte d) : two (c * 256 + d) = [c, d] := by
 unfold Byte at hc hd; unfold two; have h1 : Int.tdiv (c * 256 + d) 256 = c := by rw [Int.tdiv_eq_ediv_of_nonneg (by omega)]; omega
 have h2 : Int.tmod (c * 256 + d) 256 = d := by rw [Int.tmod_eq_emod_of_nonneg (by omega)]; omega
 rw [h1, h2, w64 (by omega) (by omega)]; have h3 : c % 256 = c := by omega
 have h4 : d % 256 = d := by omega
 rw [h3, h4]
theorem end_of {c d : Int} (hc : Byte c) (hd : Byte d) : wrap64 (wrap64 (4 + wrap64 (wrap64 c * 256)) + wrap64 d) = 4 + (c * 256 + d) ∧ wrap64 (wrap64 (wrap64 c * 256) + wrap64 d) = c * 256 + d := by
 unfold Byte at hc hd; rw [w64 (n := c) (by omega) (by omega), w64 (n := d) (by omega) (by omega), w64 (n := c * 256) (by omega) (by omega), w64 (n := 4 + c * 256) (by omega) (by omega), w64 (n := 4 + c * 256 + d) (by omega) (by omega), w64 (n := c * 256 + d) (by omega) (by omega)]; exact ⟨by omega, rfl⟩
theorem toNat4 (n : Nat) : ((4 : Int) + n).toNat = 4 + n := by omega
theorem wr4 (n : Nat) (h : n ≤ 65535) : wrap64 ((4 : Int) + n + 2) = 6 + n ∧ wrap64 ((6 : Int) + n) = 6 + n ∧ wrap64 ((4 : Int) + n) = 4 + n :=
  ⟨by rw [w64 (by omega) (by omega)]; omega, w64 (by omega) (by omega), w64 (by omega) (by omega)⟩
theorem byte_w {b : Int} (h : Byte b) : wrap64 b = b := by unfold Byte at h; exact w64 (by omega) (by omega)
theorem byte_i {b : Int} (h : Byte b) : I64 b := by unfold Byte at h; unfold I64; omega
theorem byte_m {b : Int} (h : Byte b) : b % 256 = b := by unfold Byte at h; omega
theorem byte_n {c d : Int} (hc : Byte c) (hd : Byte d) : ∃ n : Nat, c * 256 + d = (n : Int) ∧ n ≤ 65535 := by
 unfold Byte at hc hd; exact ⟨(c * 256 + d).toNat, by omega, by omega⟩
theorem byte_0 : Byte 0 := by unfold Byte; omega
theorem i64_0 : I64 0 := by unfold I64; omega
theorem move_w {x : Int} (h : Byte x) : wrap64 (wrap64 x - 1) = x - 1 ∧ wrap64 (x - 1 + 1) % 256 = x ∧ I64 (x - 1) := by
 unfold Byte at h; refine ⟨?_, ?_, ?_⟩
 · rw [w64 (n := x) (by omega) (by omega)]; exact w64 (by omega) (by omega)
 · rw [w64 (by omega) (by omega)]; omega
 · unfold I64; omega
theorem rd0 (a : Int) (r : List Int) : rd (a :: r) 0 = a := rfl
theorem rd1 (a b : Int) (r : List Int) : rd (a :: b :: r) 1 = b := rfl
theorem rd2 (a b c : Int) (r : List Int) : rd (a :: b :: c :: r) 2 = c := rfl
theorem rd3 (a b c d : Int) (r : List Int) : rd (a :: b :: c :: d :: r) 3 = d := rfl
theorem entries4 (a b c d : Int) (r L : List Int) (hL : L = a :: b :: c :: d :: r) (hl : r.length ≤ 4990) (hb : ∀ x ∈ L, Byte x) :
    ∃ t u, Alike L t u ∧ ∀ k, 7000 ≤ k → log_entry.f k L = some t ∧ riposteref26_readEntry.f k L = some u := by
 have ha := hb a (by rw [hL]; simp); have hbb := hb b (by rw [hL]; simp); have hc := hb c (by rw [hL]; simp); have hd := hb d (by rw [hL]; simp); have r0 : rd L 0 = a := by rw [hL]; rfl
 have r1 : rd L 1 = b := by rw [hL]; rfl
 have r2 : rd L 2 = c := by rw [hL]; rfl
 have r3 : rd L 3 = d := by rw [hL]; rfl
 obtain ⟨q1, q2⟩ := end_of hc hd; obtain ⟨n, hn, hn1⟩ := byte_n hc hd; rw [hn] at q1 q2; obtain ⟨q3, q4, q5⟩ := wr4 n hn1; have hwa : wrap64 b = b := byte_w hbb; have HN := Aside0.mk hn; have Q1 := Aside0.mk q1; have Q2 := Aside0.mk q2; have Q3 := Aside0.mk q3; have Q4 := Aside0.mk q4; have Q5 := Aside0.mk q5; have HW := Aside0.mk hwa; clear q1 q2 q3 q4 q5 hwa hn; have hlen : L.length = r.length + 4 := by rw [hL]; rfl
 have e1 : ((4 : Int) + n).toNat = 4 + n := toNat4 n
 have ht2 : L.take (4 + n) = a :: b :: c :: d :: r.take n := by
   rw [hL, Nat.add_comm]; rfl
 have ht : (L.take (4 + n)).drop 4 = r.take n := by rw [ht2]; rfl
 by_cases hshort : r.length < n + 2
 · refine ⟨zero8, zero8, .inl ⟨rfl, rfl⟩, fun k hk => ⟨?_, ?_⟩⟩
   · unfold log_entry.f; rw [hlen, r2, r3, Q1.out, Q3.out]; by_cases h6 : ((r.length + 4 : Nat) : Int) < 6
     · rw [if_pos h6]; rfl
     rw [if_neg h6, if_pos (by omega), if_pos (by omega), if_pos (by omega)]; rfl
   · unfold riposteref26_readEntry.f; rw [hlen, r2, r3, Q2.out, Q4.out]; rw [if_neg (by omega), if_pos (by omega), if_pos (by omega), if_pos (by omega)]; rfl
 have hrn : (r.take n).length = n := by rw [List.length_take]; omega
 have hrb : ∀ x ∈ r.take n, Byte x := fun x hx => hb x (by rw [hL]; simp [List.mem_of_mem_take hx])
 have hn6 : n + 6 ≤ L.length := by rw [hlen]; omega
 have hl5 : L.length ≤ 5000 := by rw [hlen]; omega
 have l1 : ∀ k, log_entry.f k L = (if a = 1 then ((slices_Clone_byte_byte.f (r.take n)).bind fun t269 => (log_entry.j0 k L ((4 : Int) + n) a b t269 0 0 0 0)) else (if a = 2 then (if ((r.take n).length : Int) = 4 then (if 0 < ((r.take n).length : Int) then (if 1 < ((r.take n).length : Int) then (if 2 < ((r.take n).length : Int) then (if 3 < ((r.take n).length : Int) then (log_entry.j0 k L ((4 : Int) + n) a b ([] : List Int) (wrap64 (rd (r.take n) 0)) (wrap64 (rd (r.take n) 1)) (rd (r.take n) 2) (wrap64 (wrap64 (rd (r.take n) 3) - 1))) else none) else none) else none) else none) else (some (a, b, ([] : List Int), 0, 0, 0, 0, 0))) else (some (a, b, ([] : List Int), 0, 0, 0, 0, 0)))) := by
   intro k
   unfold log_entry.f
   rw [hlen, r0, r1, r2, r3, Q1.out, Q3.out, HW.out, e1, ht, if_neg (by omega), if_pos (by omega), if_pos (by omega), if_neg (by omega), if_pos (by omega), if_pos (by omega), if_pos (by omega), if_pos (by omega)]
 have l2 : ∀ k, riposteref26_readEntry.f k L = (if a = 2 then (if (n : Int) = 4 then (if 0 < ((r.take n).length : Int) then (if 1 < ((r.take n).length : Int) then (if 2 < ((r.take n).length : Int) then (if 3 < ((r.take n).length : Int) then (riposteref26_readEntry.j0 k L ((6 : Int) + n) a b ([] : List Int) (wrap64 (rd (r.take n) 0)) (wrap64 (rd (r.take n) 1)) (rd (r.take n) 2) (wrap64 (wrap64 (rd (r.take n) 3) - 1))) else none) else none) else none) else none) else (some (0, 0, ([] : List Int), 0, 0, 0, 0, 0))) else ((some (([] : List Int) : List Int)).bind fun y310 => (if y310.length + (r.take n).length < 140737488355328 then (riposteref26_readEntry.j0 k L ((6 : Int) + n) a b (y310 ++ r.take n) 0 0 0 0) else none))) := by
   intro k
   unfold riposteref26_readEntry.f
   rw [hlen, r0, r1, r2, r3, Q2.out, Q4.out, Q5.out, HW.out, e1, ht, if_neg (by omega), if_pos (by omega), if_pos (by omega), if_neg (by omega), if_pos (by omega), if_pos (by omega), if_pos (by omega), if_pos (by omega)]
 by_cases h1 : a = 1
 ·
   let e : S59 := ⟨a, b, r.take n, ⟨0, 0, 0, 0⟩⟩
   have o : OkE e := ⟨ha, byte_i hbb, hrb, i64_0, i64_0, byte_0, i64_0⟩
   have hbd : isE e = true → body e = L.take (4 + n) := fun _ => by
     have hi : inner e = r.take n := by
       unfold inner
       rw [if_neg (show ¬ e.f0 = 2 by show ¬ a = 2; omega)]
     unfold body
     rw [hi, hrn, ← HN.out, two_of hc hd, ht2]
     have : b % 256 = b := byte_m hbb
     show [a, b % 256] ++ [c, d] ++ r.take n = _
     rw [this]; rfl
   obtain ⟨t, u, hal, hk⟩ := joints L hl5 hb e o (by show (r.take n).length ≤ 5000; omega) n hn6 hbd
   refine ⟨t, u, hal, fun k hk7 => ?_⟩
   obtain ⟨m, rfl⟩ : ∃ m, k = m + 1 := ⟨k - 1, by omega⟩
   obtain ⟨g1, g2⟩ := hk m (by omega)
   constructor
   · rw [l1, if_pos h1]
     unfold slices_Clone_byte_byte.f
     rw [Option.bind_some, if_pos (by rw [hrn, List.length_nil]; omega), Option.bind_some, List.nil_append]
     exact g1
   · rw [l2, if_neg (by omega), Option.bind_some, if_pos (by rw [hrn, List.length_nil]; omega), List.nil_append]
     exact g2
 · by_cases h2 : a = 2
   ·
     by_cases h4 : n = 4
     · subst h4
       obtain ⟨x0, x1, x2, x3, hx⟩ : ∃ x0 x1 x2 x3, r.take 4 = [x0, x1, x2, x3] := by
         match hq : r.take 4, hrn with
         | [x0, x1, x2, x3], _ => exact ⟨x0, x1, x2, x3, rfl⟩
       have y0 : Byte x0 := hrb _ (by rw [hx]; simp)
       have y1 : Byte x1 := hrb _ (by rw [hx]; simp)
       have y2 : Byte x2 := hrb _ (by rw [hx]; simp)
       have y3 : Byte x3 := hrb _ (by rw [hx]; simp)
       have V0 := Aside0.mk (byte_w y0)
       have V1 := Aside0.mk (byte_w y1)
       have V3 := Aside0.mk (move_w y3).1
       let e : S59 := ⟨a, b, [], ⟨x0, x1, x2, x3 - 1⟩⟩
       have o : OkE e := ⟨ha, byte_i hbb, by intro x hx; simp [e] at hx, byte_i y0, byte_i y1, y2, (move_w y3).2.2⟩
       have hbd : isE e = true → body e = L.take (4 + 4) := fun _ => by
         have hi : inner e = [x0, x1, x2, x3] := by
           unfold inner
           rw [if_pos (show e.f0 = 2 from h2)]
           show [x0 % 256, x1 % 256, x2, wrap64 (x3 - 1 + 1) % 256] = _
           rw [byte_m y0, byte_m y1, (move_w y3).2.1]
         unfold body
         rw [hi, ht2, hx]
         have hcd : two ((([x0, x1, x2, x3] : List Int).length : Nat) : Int) = [c, d] := by
           rw [show ((([x0, x1, x2, x3] : List Int).length : Nat) : Int) = c * 256 + d by rw [HN.out]; rfl, two_of hc hd]
         rw [hcd]
         have : b % 256 = b := byte_m hbb
         show [a, b % 256] ++ [c, d] ++ [x0, x1, x2, x3] = _
         rw [this]; rfl
       obtain ⟨t, u, hal, hk⟩ := joints L hl5 hb e o (by show ([] : List Int).length ≤ 5000; simp) 4 hn6 hbd
       refine ⟨t, u, hal, fun k hk7 => ?_⟩
       obtain ⟨m, rfl⟩ : ∃ m, k = m + 1 := ⟨k - 1, by omega⟩
       obtain ⟨g1, g2⟩ := hk m (by omega)
       have hlx : (([x0, x1, x2, x3] : List Int).length : Int) = 4 := rfl
       constructor
       · rw [l1, if_neg h1, if_pos h2, hx, hlx, if_pos rfl, if_pos (by omega), if_pos (by omega), if_pos (by omega), if_pos (by omega), rd0, rd1, rd2, rd3, V0.out, V1.out, V3.out]
         exact g1
       · rw [l2, if_pos h2, hx, hlx, if_pos (by omega), if_pos (by omega), if_pos (by omega), if_pos (by omega), if_pos (by omega), rd0, rd1, rd2, rd3, V0.out, V1.out, V3.out]
         exact g2
     · refine ⟨(a, b, [], 0, 0, 0, 0, 0), zero8, .inl ⟨rfl, rfl⟩, fun k _ => ⟨?_, ?_⟩⟩
       · rw [l1, if_neg h1, if_pos h2, if_neg (by rw [hrn]; omega)]
       · rw [l2, if_pos h2, if_neg (by omega)]; rfl
   ·
     let e : S59 := ⟨a, b, r.take n, ⟨0, 0, 0, 0⟩⟩
     have o : OkE e := ⟨ha, byte_i hbb, hrb, i64_0, i64_0, byte_0, i64_0⟩
     have hne : isE e = false := by
       unfold isE
       rw [if_neg (show ¬ e.f0 = 1 from h1), if_neg (show ¬ e.f0 = 2 from h2)]
     refine ⟨(a, b, [], 0, 0, 0, 0, 0), zero8, .inl ⟨rfl, rfl⟩, fun k hk7 => ⟨?_, ?_⟩⟩
     · rw [l1, if_neg h1, if_neg h2]
     · obtain ⟨m, rfl⟩ : ∃ m, k = m + 1 := ⟨k - 1, by omega⟩
       have g2 := refJoint L hl5 hb e o (by show (r.take n).length ≤ 5000; omega) n hn6 (fun h => by rw [hne] at h; cases h) m (by omega)
       rw [if_neg (fun h => by rw [hne] at h; cases h.1)] at g2
       rw [l2, if_neg h2, Option.bind_some, if_pos (by rw [hrn, List.length_nil]; omega), List.nil_append]
       exact g2
end Go.Proofs.YthjedmfjmllboaaGreatDoor.PB
namespace Go.Proofs.YthjedmfjmllboaaGreatDoor.PB
open Go.RowKit Go.Proofs.YthjedmfjmllboaaGreatDoorW.PrintWords Go.Proofs.YthjedmfjmllboaaGreatDoorW.PrintLast
theorem entries (L : List Int) (hl : L.length ≤ 4900) (hb : ∀ x ∈ L, Byte x) : ∃ t u, Alike L t u ∧ ∀ k, 7000 ≤ k → log_entry.f k L = some t ∧ riposteref26_readEntry.f k L = some u := by
 match L, hl, hb with
 | a :: b :: c :: d :: r, hl, hb => exact entries4 a b c d r _ rfl (by simp at hl; omega) hb
 | [], _, _ => exact ⟨zero8, zero8, .inl ⟨rfl, rfl⟩, fun k _ => ⟨by unfold log_entry.f; rw [if_pos (by simp)]; rfl, by unfold riposteref26_readEntry.f; rw [if_pos (by simp)]; rfl⟩⟩
 | [a], _, _ => exact ⟨zero8, zero8, .inl ⟨rfl, rfl⟩, fun k _ => ⟨by unfold log_entry.f; rw [if_pos (by simp)]; rfl, by unfold riposteref26_readEntry.f; rw [if_pos (by simp)]; rfl⟩⟩
 | [a, b], _, _ => exact ⟨zero8, zero8, .inl ⟨rfl, rfl⟩, fun k _ => ⟨by unfold log_entry.f; rw [if_pos (by simp)]; rfl, by unfold riposteref26_readEntry.f; rw [if_pos (by simp)]; rfl⟩⟩
 | [a, b, c], _, _ => exact ⟨zero8, zero8, .inl ⟨rfl, rfl⟩, fun k _ => ⟨by unfold log_entry.f; rw [if_pos (by simp)]; rfl, by unfold riposteref26_readEntry.f; rw [if_pos (by simp)]; rfl⟩⟩
theorem read_l0 (L : List Int) (hl : L.length ≤ 4900) (hb : ∀ x ∈ L, Byte x) : ∀ (d : Nat) (x : List S59) (i : Int), 0 ≤ i → i ≤ L.length → (L.length : Int) - i ≤ d → x.length + d ≤ 100000 →
    ∃ r : List S59 × Int × Int, r.1.length ≤ x.length + d ∧ ∀ k, d + 8000 ≤ k → log_Read.l0 k L x i = some r ∧ riposteref26_Read.l0 k L x i = some r := by
 intro d; induction d using Nat.strongRecOn with
 | ind d ih =>
  intro x i h0 h1 hd hx; have hdl : (L.drop i.toNat).length = L.length - i.toNat := List.length_drop; obtain ⟨t, u, hal, hk⟩ := entries (L.drop i.toNat) (by omega) (fun y hy => hb y (List.mem_of_mem_drop hy)); rcases hal with ⟨z1, z2⟩ | ⟨e1, z1, z2, e, e2, _⟩
  · refine ⟨(x, i, 0), by simp, fun k hkk => ?_⟩; obtain ⟨m, rfl⟩ : ∃ m, k = m + 1 := ⟨k - 1, by omega⟩
    obtain ⟨g1, g2⟩ := hk m (by omega); constructor
    · simp only [log_Read.l0]; rw [if_pos h0, if_pos h1, g1, Option.bind_some, if_pos (show t.2.2.2.2.2.2.2 = 0 from z1)]
    · simp only [riposteref26_Read.l0]; rw [if_pos h0, if_pos h1, g2, Option.bind_some, if_pos (show u.2.2.2.2.2.2.2 = 0 from z2)]
  · subst e1; generalize hm : many t = q at z1 z2 e2; obtain ⟨r, hr1, hr⟩ := ih (d - q.toNat) (by omega) (x ++ [e]) (i + q) (by omega) (by omega) (by omega) (by simp; omega); refine ⟨r, by simp at hr1; omega, fun k hkk => ?_⟩; obtain ⟨m, rfl⟩ : ∃ m, k = m + 1 := ⟨k - 1, by omega⟩
    obtain ⟨g1, g2⟩ := hk m (by omega); obtain ⟨w1, w2⟩ := hr m (by omega); have hw : wrap64 (i + q) = i + q := w64 (by omega) (by omega); subst e2
    have hne : ¬ (tup e q).2.2.2.2.2.2.2 = 0 := fun h => by
      have h : q = 0 := h
      omega
    have hee : (⟨(tup e q).1, (tup e q).2.1, (tup e q).2.2.1, (⟨(tup e q).2.2.2.1, (tup e q).2.2.2.2.1, (tup e q).2.2.2.2.2.1, (tup e q).2.2.2.2.2.2.1⟩ : S36)⟩ : S59) = e := rfl; have hq : (tup e q).2.2.2.2.2.2.2 = q := rfl; constructor
    · simp only [log_Read.l0]; rw [if_pos h0, if_pos h1, g1, Option.bind_some, if_neg hne, if_pos (by omega), hee, hq, hw]; exact w1
    · simp only [riposteref26_Read.l0]; rw [if_pos h0, if_pos h1, g2, Option.bind_some, if_neg hne, if_pos (by omega), hee, hq, hw]; exact w2
theorem read_eq (L : List Int) (hl : L.length ≤ 4900) (hb : ∀ x ∈ L, Byte x) : ∃ r : List S59 × Int × Int, r.1.length ≤ 5000 ∧ ∀ k, 20000 ≤ k → log_Read.f k L = some r ∧ riposteref26_Read.f k L = some r := by
 obtain ⟨r, h1, h2⟩ := read_l0 L hl hb L.length [] 0 (by omega) (by omega) (by omega) (by simp; omega); refine ⟨r, by simp at h1; omega, fun k hk => ?_⟩; obtain ⟨g1, g2⟩ := h2 k (by omega); constructor
 · unfold log_Read.f; rw [if_neg (by omega)]; exact g1
 · unfold riposteref26_Read.f; rw [if_neg (by omega)]; exact g2
theorem same_l0 (x : List S59) (hl : x.length ≤ 100000) : ∀ (d k : Nat) (i : Int), 0 ≤ i → i ≤ x.length → (x.length : Int) - i = d → d < k → riposteref26_SameEntries.l0 k x x i = some true := by
 intro d; induction d with
 | zero =>
  intro k i h0 h1 hd hk; obtain ⟨k, rfl⟩ : ∃ m, k = m + 1 := ⟨k - 1, by omega⟩
  simp only [riposteref26_SameEntries.l0]; rw [if_neg (by omega)]
 | succ d ih =>
  intro k i h0 h1 hd hk; obtain ⟨k, rfl⟩ : ∃ m, k = m + 1 := ⟨k - 1, by omega⟩
  have hlt : i < (x.length : Int) := by omega
  have hw : wrap64 (i + 1) = i + 1 := w64 (by omega) (by omega); simp only [riposteref26_SameEntries.l0]; rw [if_pos hlt, if_pos h0, if_pos hlt, if_pos trivial, if_pos trivial, if_neg (by simp), if_pos trivial, hw]; exact ih k (i + 1) (by omega) (by omega) (by omega) (by omega)
theorem same_ok (x : List S59) (hl : x.length ≤ 100000) {k : Nat} (hk : x.length < k) : riposteref26_SameEntries.f k x x = some true := by
 unfold riposteref26_SameEntries.f; rw [if_pos rfl]; exact same_l0 x hl x.length k 0 (by omega) (by omega) (by omega) hk
theorem thin_l0 (l : List S59) (hl : l.length ≤ 1000) : ∀ (d : Nat) (i : Int), 0 ≤ i → i ≤ l.length → (l.length : Int) - i = d → ∃ b, (b = true → ∀ e ∈ l.drop i.toNat, e.f2.length ≤ 2100) ∧ ∀ k, d < k → ripostelaw26_ThinEntries.l0 k l i = some b := by
 intro d; induction d with
 | zero =>
  intro i h0 h1 hd; refine ⟨true, fun _ e he => by rw [List.drop_eq_nil_of_le (by omega)] at he; simp at he, fun k hk => ?_⟩; obtain ⟨k, rfl⟩ : ∃ m, k = m + 1 := ⟨k - 1, by omega⟩
  simp only [ripostelaw26_ThinEntries.l0]; rw [if_neg (by omega)]
 | succ d ih =>
  intro i h0 h1 hd; have hlt : i < (l.length : Int) := by omega
  have hw : wrap64 (i + 1) = i + 1 := w64 (by omega) (by omega); obtain ⟨b, hb1, hb2⟩ := ih (i + 1) (by omega) (by omega) (by omega); by_cases c1 : (((rd_T59 l i).f2).length : Int) > 1000; rotate_left
  · refine ⟨b, fun h e he => ?_, fun k hk => ?_⟩
    · rw [rdT_drop h0 hlt] at he; rcases List.mem_cons.1 he with rfl | he
      · omega
      · exact hb1 h e he
    · obtain ⟨k, rfl⟩ : ∃ m, k = m + 1 := ⟨k - 1, by omega⟩
      simp only [ripostelaw26_ThinEntries.l0]; rw [if_pos hlt, if_pos h0, if_neg c1, hw]; exact hb2 k (by omega)
  by_cases c2 : i > 0
  · refine ⟨false, fun h => (by cases h), fun k hk => ?_⟩; obtain ⟨k, rfl⟩ : ∃ m, k = m + 1 := ⟨k - 1, by omega⟩
    simp only [ripostelaw26_ThinEntries.l0]; rw [if_pos hlt, if_pos h0, if_pos c1, if_pos c2]
  by_cases c3 : (((rd_T59 l i).f2).length : Int) > 2100
  · refine ⟨false, fun h => (by cases h), fun k hk => ?_⟩; obtain ⟨k, rfl⟩ : ∃ m, k = m + 1 := ⟨k - 1, by omega⟩
    simp only [ripostelaw26_ThinEntries.l0]; rw [if_pos hlt, if_pos h0, if_pos c1, if_neg c2, if_pos c3]
  refine ⟨b, fun h e he => ?_, fun k hk => ?_⟩
  · rw [rdT_drop h0 hlt] at he; rcases List.mem_cons.1 he with rfl | he
    · omega
    · exact hb1 h e he
  · obtain ⟨k, rfl⟩ : ∃ m, k = m + 1 := ⟨k - 1, by omega⟩
    simp only [ripostelaw26_ThinEntries.l0]; rw [if_pos hlt, if_pos h0, if_pos c1, if_neg c2, if_neg c3, hw]; exact hb2 k (by omega)
theorem thin_ok (l : List S59) : ∃ b, (b = true → l.length ≤ 400 ∧ ∀ e ∈ l, e.f2.length ≤ 2100) ∧ ∀ k, 2000 ≤ k → ripostelaw26_ThinEntries.f k l = some b := by
 by_cases h4 : (l.length : Int) > 400
 · refine ⟨false, fun h => (by cases h), fun k hk => ?_⟩; obtain ⟨k, rfl⟩ : ∃ m, k = m + 1 := ⟨k - 1, by omega⟩
   unfold ripostelaw26_ThinEntries.f; rw [if_pos (by omega), if_neg (by omega)]; simp only [ripostelaw26_ThinEntries.j0]; rw [if_pos (by simpa using h4)]
 by_cases h3 : (l.length : Int) > 30 ∧ (l.length : Int) ≤ 300
 · refine ⟨false, fun h => (by cases h), fun k hk => ?_⟩; obtain ⟨k, rfl⟩ : ∃ m, k = m + 1 := ⟨k - 1, by omega⟩
   unfold ripostelaw26_ThinEntries.f; rw [if_pos h3.1, if_pos h3.2]; simp only [ripostelaw26_ThinEntries.j0]; rw [if_pos trivial]
 obtain ⟨b, h1, h2⟩ := thin_l0 l (by omega) l.length 0 (by omega) (by omega) (by omega); refine ⟨b, fun h => ⟨by omega, fun e he => h1 h e (by simpa using he)⟩, fun k hk => ?_⟩; obtain ⟨k, rfl⟩ : ∃ m, k = m + 1 := ⟨k - 1, by omega⟩
 have hj : ripostelaw26_ThinEntries.j0 (k + 1) l (decide ((l.length : Int) > 400)) = some b := by
   simp only [ripostelaw26_ThinEntries.j0]
   rw [if_neg (by simpa using h4)]
   exact h2 k (by omega)
 unfold ripostelaw26_ThinEntries.f; by_cases h30 : (l.length : Int) > 30; rotate_left
 · rw [if_neg h30]; exact hj
 rw [if_pos h30, if_neg (fun h => h3 ⟨h30, h⟩)]; exact hj
theorem fake (l : List S59) (b : List Int) (ho : ∀ e ∈ l, OkE e) (hb : ∀ x ∈ b, Byte x) : ∀ k, 50000 ≤ k → zlaw_Fake.f k l b = some true := by
 intro k hk; obtain ⟨t, ht1, ht2⟩ := thin_ok l; unfold zlaw_Fake.f; rw [ht2 k (by omega), Option.bind_some]; obtain ⟨k, rfl⟩ : ∃ m, k = m + 1 := ⟨k - 1, by omega⟩
 by_cases htt : t = true; rotate_left
 · rw [if_neg htt]; simp only [zlaw_Fake.j0]; rw [if_pos trivial]
 obtain ⟨hl, hs⟩ := ht1 htt; rw [if_pos htt]; simp only [zlaw_Fake.j0]; by_cases h4 : (b.length : Int) > 4000
 · rw [if_pos (by simpa using h4)]
 rw [if_neg (by simpa using h4), copyEntries l (by omega) (fun e he => by have := hs e he; omega) (by omega), Option.bind_some]; obtain ⟨r, hbytes⟩ := bytes_eq l ⟨by omega, ho, fun e he => by have := hs e he; omega⟩; obtain ⟨g1, g2⟩ := hbytes k (by omega); obtain ⟨q, hq, hread⟩ := read_eq b (by omega) hb; obtain ⟨g3, g4⟩ := hread k (by omega); have g5 := same_ok q.1 (by omega) (k := k) (by omega); have g6 := refSum b (by omega) (k := k) (by omega); have g7 : log_Sum.f k b = some (sumS b) := by rw [logSum_eq]; exact g6
 rw [g1, Option.bind_some, g2, Option.bind_some, Option.bind_some, List.nil_append, if_pos (by rw [List.length_nil]; omega), g3, Option.bind_some, g4, Option.bind_some,
   if_pos rfl, if_pos rfl, g5, Option.bind_some, if_pos rfl, if_pos rfl, if_pos rfl, Option.bind_some, if_pos (by rw [List.length_nil]; omega), List.nil_append, g7, Option.bind_some, g6, Option.bind_some]
 simp
end Go.Proofs.YthjedmfjmllboaaGreatDoor.PB
namespace Go.Proofs.YthjedmfjmllboaaGreatDoor.PB
open Go Go.ChangeShapes Go.WideShapes Go.RowKit Go.Deep Go.Proofs.YthjedmfjmllboaaGreatDoorW.PrintWords
theorem cells59 : Tryz.prog.cellsOf 59 = 7 := by kernel_rfl
theorem cells36 : Tryz.prog.cellsOf 36 = 4 := by kernel_rfl
theorem cells23 : Tryz.prog.cellsOf 23 = 1 := by kernel_rfl
theorem cells5 : Tryz.prog.cellsOf 5 = 1 := by kernel_rfl
theorem cells3 : Tryz.prog.cellsOf 3 = 1 := by kernel_rfl
theorem four_of {cs : List Value} (h : cs.length = 4) : ∃ a b c d, cs = [a, b, c, d] := by
 match cs, h with
 | [a, b, c, d], _ => exact ⟨a, b, c, d, rfl⟩
theorem seven_of {cs : List Value} (h : cs.length = 7) : ∃ a b c d e f g, cs = [a, b, c, d, e, f, g] := by
 match cs, h with
 | [a, b, c, d, e, f, g], _ => exact ⟨a, b, c, d, e, f, g, rfl⟩
instance : Inhabited S59 := ⟨z59⟩
section
variable {H : Type} {enc : TypeId × Value → H} {W : World}
theorem open_four {P : Program} {base : Nat} {spare : Nat → Bool} {held : Bool} {t : TypeId} {f0 f1 f2 f3 : Field} {fuel : Nat} {cs : List Value} {x : DataW H × List MemPlace} (ht : P.underlying t = some (.struct #[f0, f1, f2, f3])) (h : DataW.trod enc P W base spare held fuel t cs = some x) :
    ∃ y0 y1 y2 y3 n, cs.length = P.cellsOf t ∧ DataW.trod enc P W base spare held n f0.type ((cs.drop f0.offset).take (P.cellsOf f0.type)) = some y0 ∧
      DataW.trod enc P W base spare held n f1.type ((cs.drop f1.offset).take (P.cellsOf f1.type)) = some y1 ∧ DataW.trod enc P W base spare held n f2.type ((cs.drop f2.offset).take (P.cellsOf f2.type)) = some y2 ∧
      DataW.trod enc P W base spare held n f3.type ((cs.drop f3.offset).take (P.cellsOf f3.type)) = some y3 := by
 obtain ⟨xs, n, _, rfl, hl, hlen, hf⟩ := DataW.trod_struct ht h; match xs, hlen with
 | [y0, y1, y2, y3], _ => exact ⟨y0, y1, y2, y3, n, hl, by simpa using hf 0 f0 rfl, by simpa using hf 1 f1 rfl, by simpa using hf 2 f2 rfl, by simpa using hf 3 f3 rfl⟩
theorem byte_of {x : Int} (h : (Lit.int .u8 x).wf = true) : Byte x := by
 simp [Lit.wf] at h; unfold Byte; first | omega | exact h | (simp_all; omega)
theorem i64_of {x : Int} (h : (Lit.int .i64 x).wf = true) : I64 x := by
 simp [Lit.wf] at h; unfold I64; first | omega | exact h | (simp_all; omega)
theorem open_bytes {n : Nat} {cs : List Value} {x : DataW H × List MemPlace} (h : DataW.trod enc Tryz.prog W 0 (fun _ => true) true n 23 cs = some x) :
    ∃ A len cap, cs = [.slice A len cap] ∧ ∃ l : List Int, len = l.length ∧ Kd.C (Kd.int .u8) W A l.length l ∧ (∀ x ∈ l, Byte x) ∧ l.length ≤ cap := by
 rcases open_ints Tryz.underlying23 Tryz.underlying5 cells5 h with ⟨rfl, _⟩ | ⟨a, len, cap, zs, rfl, _, hl, hm, hz, _, hcell, hwz⟩
 · obtain ⟨l, h1, h2, h3, h4, h5⟩ := ReadsInt.ofRowC (k := .u8) (w := W) (a := none) (len := 0) (cap := 0) (zs := []) (.inl ⟨rfl, rfl, rfl, rfl⟩); exact ⟨none, 0, 0, rfl, l, h1, Kd.C_of_reads h2, fun x hx => byte_of (h4 x hx), h5⟩
 · obtain ⟨l, h1, h2, h3, h4, h5⟩ := ReadsInt.ofRowC (k := .u8) (w := W) (a := some a) (len := len) (cap := cap) (zs := zs) (.inr ⟨a, rfl, hl, hm, by simpa using hz, hcell, hwz⟩); exact ⟨some a, len, cap, rfl, l, h1, Kd.C_of_reads h2, fun x hx => byte_of (h4 x hx), h5⟩
theorem open_move {n : Nat} {cs : List Value} {x : DataW H × List MemPlace} (h : DataW.trod enc Tryz.prog W 0 (fun _ => true) true n 36 cs = some x) :
    ∃ a b c d : Int, cs = [.int .i64 a, .int .i64 b, .int .u8 c, .int .i64 d] ∧ I64 a ∧ I64 b ∧ Byte c ∧ I64 d := by
 obtain ⟨y0, y1, y2, y3, m, hl, t0, t1, t2, t3⟩ := open_four Tryz.underlying36 h; rw [cells36] at hl; obtain ⟨c0, c1, c2, c3, rfl⟩ := four_of hl
 ·
   simp only [cells5, cells3, List.drop, List.take] at t0 t1 t2 t3
   obtain ⟨a, e0, _, w0⟩ := DataW.trod_int Tryz.underlying3 t0
   obtain ⟨b, e1, _, w1⟩ := DataW.trod_int Tryz.underlying3 t1
   obtain ⟨c, e2, _, w2⟩ := DataW.trod_int Tryz.underlying5 t2
   obtain ⟨d, e3, _, w3⟩ := DataW.trod_int Tryz.underlying3 t3
   simp only [List.cons.injEq, and_true] at e0 e1 e2 e3
   subst e0 e1 e2 e3
   exact ⟨a, b, c, d, rfl, i64_of w0, i64_of w1, byte_of w2, i64_of w3⟩
theorem open_entry {n : Nat} {cs : List Value} {x : DataW H × List MemPlace} (h : DataW.trod enc Tryz.prog W 0 (fun _ => true) true n 59 cs = some x) :
    ∃ e : S59, OkE e ∧ cs.length = 7 ∧ k59.K W e cs := by
 obtain ⟨y0, y1, y2, y3, m, hl, t0, t1, t2, t3⟩ := open_four Tryz.underlying59 h; rw [cells59] at hl; obtain ⟨c0, c1, c2, c3, c4, c5, c6, rfl⟩ := seven_of hl
 ·
   simp only [cells5, cells3, cells23, cells36, List.drop, List.take] at t0 t1 t2 t3
   obtain ⟨a, e0, _, w0⟩ := DataW.trod_int Tryz.underlying5 t0
   obtain ⟨b, e1, _, w1⟩ := DataW.trod_int Tryz.underlying3 t1
   obtain ⟨A, len, cap, e2, l, rfl, hC, hB, hcap⟩ := open_bytes t2
   obtain ⟨p, q, r, s, e3, hp, hq, hr, hs⟩ := open_move t3
   simp only [List.cons.injEq, and_true] at e0 e1 e2 e3
   obtain ⟨rfl, rfl, rfl, rfl⟩ := e3
   subst e0 e1 e2
   exact ⟨⟨a, b, l, ⟨p, q, r, s⟩⟩, ⟨byte_of w0, i64_of w1, hB, hp, hq, hr, hs⟩, rfl, k37_mk W ⟨a, b, l, ⟨p, q, r, s⟩⟩ hcap hC⟩
theorem open_entries {a : Option Addr} {len cap : Nat} {d : DataW H} {ps : List MemPlace} (h : DataW.Trod enc Tryz.prog W 0 (fun _ => true) true 22 (.slice a len cap) d ps) :
    ∃ l : List S59, len = l.length ∧ Kd.C k59 W a l.length l ∧ (∀ e ∈ l, OkE e) ∧ l.length ≤ cap := by
 obtain ⟨fuel, hf⟩ := h; rcases open_slice Tryz.underlying22 hf with ⟨hcs, _⟩ | ⟨x, len', cap', m, n, D, Pl, hcs, _, hl, hm, hmm, _, hx⟩
 · simp [Value.cells] at hcs; obtain ⟨rfl, rfl, rfl⟩ := hcs; exact ⟨[], rfl, ⟨rfl, by simp, fun h => absurd h (by simp)⟩, by simp, by simp⟩
 · simp [Value.cells] at hcs; obtain ⟨rfl, rfl, rfl⟩ := hcs; have hle : len ≤ m := by rw [hmm]; simpa using hl
   have each : ∀ i, i < len → ∃ e : S59, OkE e ∧ ∃ c, c.length = 7 ∧ k59.K W e c ∧ ∀ j u, c[j]? = some u → W.cell? (x.add (i * 7 + j)) = some u := by
     intro i hi
     obtain ⟨cs', h1, h2⟩ := hx i (by omega)
     rw [cells59] at h1
     obtain ⟨e, ho, h3, hK⟩ := open_entry h2
     refine ⟨e, ho, cs', h3, hK, fun j u hu => ?_⟩
     obtain ⟨_, _, h4⟩ := World.cells?_some h1
     have hj : j < 7 := by rw [← h3]; exact (List.getElem?_eq_some_iff.1 hu).1
     rw [← Deep.add_add, h4 j hj]
     exact hu
   obtain ⟨f, hf'⟩ := choose_lt each; refine ⟨(List.range len).map f, by simp, ⟨rfl, ?_, fun _ => ⟨x, rfl, fun j p hp => ?_⟩⟩, fun e he => ?_, by simpa using hl⟩
   · have : maxLen ≤ 9223372036854775807 := by decide
     simp; omega
   · obtain ⟨hj, hp⟩ := List.getElem?_eq_some_iff.1 hp; simp at hj hp; subst hp; exact (hf' j hj).2
   · simp only [List.mem_map, List.mem_range] at he; obtain ⟨i, hi, rfl⟩ := he; exact (hf' i hi).1
theorem open_row {a : Option Addr} {len cap : Nat} {d : DataW H} {ps : List MemPlace} (h : DataW.Trod enc Tryz.prog W 0 (fun _ => true) true 23 (.slice a len cap) d ps) :
    ∃ l : List Int, len = l.length ∧ Kd.C (Kd.int .u8) W a l.length l ∧ (∀ x ∈ l, Byte x) ∧ l.length ≤ cap := by
 obtain ⟨fuel, hf⟩ := h; obtain ⟨A, len', cap', hcs, l, h1, h2, h3, h4⟩ := open_bytes hf; simp [Value.cells] at hcs; obtain ⟨rfl, rfl, rfl⟩ := hcs; exact ⟨l, h1, h2, h3, h4⟩
end
end Go.Proofs.YthjedmfjmllboaaGreatDoor.PB
