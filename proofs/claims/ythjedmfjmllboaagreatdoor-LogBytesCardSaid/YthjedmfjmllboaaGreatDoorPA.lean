/- Contracts of the smaller functions that LogBytes reaches. Conditions: those that the theorems state. -/
import Derived.Test.YthjedmfjmllboaaGreatDoorProg
import Derived.Below
import Derived.Deep.Draws
import Derived.Deep.AppendLies
import Derived.Maps.AppendAt
import Derived.OwnWalk
import Derived.Laws.BytesArg
import Derived.Laws.MakeOwn
import Derived.Laws.OwnMore
import Derived.Deep.OwnRows
import Derived.Tactics
import Derived.Lib.ConvBytes
import Derived.Laws.Slices
import Derived.WalkKit
import Derived.KernelRfl
import Derived.RowKit3
import Derived.Deep.LoopGhost
import Derived.Deep.QuietTactic
import Derived.BigQuiet
import Derived.WideLaws
import Derived.Deep.DeepCutAuto
import Derived.Deep.CutBlock
import Derived.Deep.RegionHeld3
import Derived.Laws.Rows
import Derived.Lib.AppendStr
import Derived.ArgAppend
import Derived.Laws.IdiomCopy
import Derived.OrdersHeld
import Derived.Laws.BitsLemmas
import Derived.RowKit
import Derived.Test.YthjedmfjmllboaaGreatDoorV
import Derived.Laws.Cover3
set_option linter.unusedVariables false
set_option linter.unusedSimpArgs false
namespace Go.Proofs.YthjedmfjmllboaaGreatDoor.PB
open Go.RowKit Go.Proofs.YthjedmfjmllboaaGreatDoorW.PrintWords Go.Proofs.YthjedmfjmllboaaGreatDoorW.PrintLast
def errW : Option Int → Value
  | none => .nilIface
  | some c => .iface 0 (.int .i64 c)
theorem errW_none : errW none = .nilIface := rfl
theorem errW_some (c : Int) : errW (some c) = .iface 0 (.int .i64 c) := rfl
theorem info5 : (Tryz.prog.info? 5).map (fun i => (i.zero, i.size, i.bytes)) = some (some (.int .u8 0), 1, 1) := by kernel_rfl
theorem info59 : (Tryz.prog.info? 59).map (fun i => (i.zero, i.size, i.bytes)) = some (some (.agg #[(.int .u8 0), (.int .i64 0), (.slice none 0 0), (.int .i64 0), (.int .i64 0), (.int .u8 0), (.int .i64 0)]), 7, 72) := by kernel_rfl
def rd_L2 (xs : List (List Int)) (i : Int) : (List Int) := xs.getD i.toNat ([] : List Int)
theorem at_L2 {w : World} {A : Option Addr} {n : Nat} {xs : List (List Int)} (h : Kd.C (Kd.slice 5 (Kd.int .u8)) w A n xs) (i : Int) (h0 : 0 ≤ i) (h1 : i < n) : ∃ ad A0 c0, A = some ad ∧ w.cell? (ad.add i.toNat) = some (.slice A0 (rd_L2 xs i).length c0) ∧ (rd_L2 xs i).length ≤ c0 ∧ (Kd.int .u8).C w A0 (rd_L2 xs i).length (rd_L2 xs i) := by
 obtain ⟨ad, c, e, _, hK, hc0⟩ := Kd.C_get h ([] : List Int) i h0 h1; have hc : ∀ j u, c[j]? = some u → w.cell? (ad.add (i.toNat * 1 + j)) = some u := hc0
 obtain ⟨A0, c0, rfl, l0, g0⟩ := hK; exact ⟨ad, A0, c0, e, by have hq := hc 0 _ rfl; rwa [Nat.mul_one, Nat.add_zero] at hq, l0, g0⟩
structure S36 where
  f0 : Int
  f1 : Int
  f2 : Int
  f3 : Int
def z36 : S36 := ⟨(0 : Int), (0 : Int), (0 : Int), (0 : Int)⟩
def k36 : Kd S36 := Kd.iso (Kd.pair (Kd.int .i64) (Kd.pair (Kd.int .i64) (Kd.pair (Kd.int .u8) (Kd.int .i64)))) (fun x : S36 => (x.f0, x.f1, x.f2, x.f3))
theorem k35_open {w : World} {x : S36} {cs : List Value} (h : k36.K w x cs) : cs = [.int .i64 x.f0, .int .i64 x.f1, .int .u8 x.f2, .int .i64 x.f3] := by
 obtain ⟨_, _, rfl, rfl, ⟨_, _, rfl, rfl, ⟨_, _, rfl, rfl, rfl⟩⟩⟩ := h; exact rfl
theorem k35_mk (w : World) (x : S36)  : k36.K w x [.int .i64 x.f0, .int .i64 x.f1, .int .u8 x.f2, .int .i64 x.f3] := ⟨[.int .i64 x.f0], [.int .i64 x.f1, .int .u8 x.f2, .int .i64 x.f3], rfl, rfl, ⟨[.int .i64 x.f1], [.int .u8 x.f2, .int .i64 x.f3], rfl, rfl, ⟨[.int .u8 x.f2], [.int .i64 x.f3], rfl, rfl, rfl⟩⟩⟩
theorem k35_mkM (w : World) (base : Nat) (ok : Nat → Prop) (x : S36)  : k36.M w base ok x [.int .i64 x.f0, .int .i64 x.f1, .int .u8 x.f2, .int .i64 x.f3] := ⟨[.int .i64 x.f0], [.int .i64 x.f1, .int .u8 x.f2, .int .i64 x.f3], rfl, rfl, ⟨[.int .i64 x.f1], [.int .u8 x.f2, .int .i64 x.f3], rfl, rfl, ⟨[.int .u8 x.f2], [.int .i64 x.f3], rfl, rfl, rfl⟩⟩⟩
structure S59 where
  f0 : Int
  f1 : Int
  f2 : (List Int)
  f3 : S36
def z59 : S59 := ⟨(0 : Int), (0 : Int), ([] : List Int), z36⟩
def k59 : Kd S59 := Kd.iso (Kd.pair (Kd.int .u8) (Kd.pair (Kd.int .i64) (Kd.pair (Kd.slice 5 (Kd.int .u8)) k36))) (fun x : S59 => (x.f0, x.f1, x.f2, x.f3))
theorem k37_open {w : World} {x : S59} {cs : List Value} (h : k59.K w x cs) : ∃ A2 c2, cs = [.int .u8 x.f0, .int .i64 x.f1, .slice A2 x.f2.length c2, .int .i64 x.f3.f0, .int .i64 x.f3.f1, .int .u8 x.f3.f2, .int .i64 x.f3.f3] ∧ x.f2.length ≤ c2 ∧ (Kd.int .u8).C w A2 x.f2.length x.f2 := by
 obtain ⟨_, _, rfl, rfl, ⟨_, _, rfl, rfl, ⟨_, _, rfl, ⟨A2, c2, rfl, l2, g2⟩, s3⟩⟩⟩ := h; obtain rfl := k35_open s3; exact ⟨A2, c2, rfl, l2, g2⟩
theorem k37_mk (w : World) (x : S59) {A2 : Option Addr} {c2 : Nat} (l2 : x.f2.length ≤ c2) (g2 : (Kd.int .u8).C w A2 x.f2.length x.f2) : k59.K w x [.int .u8 x.f0, .int .i64 x.f1, .slice A2 x.f2.length c2, .int .i64 x.f3.f0, .int .i64 x.f3.f1, .int .u8 x.f3.f2, .int .i64 x.f3.f3] := ⟨[.int .u8 x.f0], [.int .i64 x.f1, .slice A2 x.f2.length c2, .int .i64 x.f3.f0, .int .i64 x.f3.f1, .int .u8 x.f3.f2, .int .i64 x.f3.f3], rfl, rfl, ⟨[.int .i64 x.f1], [.slice A2 x.f2.length c2, .int .i64 x.f3.f0, .int .i64 x.f3.f1, .int .u8 x.f3.f2, .int .i64 x.f3.f3], rfl, rfl, ⟨[.slice A2 x.f2.length c2], [.int .i64 x.f3.f0, .int .i64 x.f3.f1, .int .u8 x.f3.f2, .int .i64 x.f3.f3], rfl, ⟨A2, c2, rfl, l2, g2⟩, (k35_mk w x.f3 )⟩⟩⟩
theorem k37_mkM (w : World) (base : Nat) (ok : Nat → Prop) (x : S59) {v2 : Value} (g2 : (Kd.int .u8).R 5 w base ok v2 x.f2) : k59.M w base ok x [.int .u8 x.f0, .int .i64 x.f1, v2, .int .i64 x.f3.f0, .int .i64 x.f3.f1, .int .u8 x.f3.f2, .int .i64 x.f3.f3] := ⟨[.int .u8 x.f0], [.int .i64 x.f1, v2, .int .i64 x.f3.f0, .int .i64 x.f3.f1, .int .u8 x.f3.f2, .int .i64 x.f3.f3], rfl, rfl, ⟨[.int .i64 x.f1], [v2, .int .i64 x.f3.f0, .int .i64 x.f3.f1, .int .u8 x.f3.f2, .int .i64 x.f3.f3], rfl, rfl, ⟨[v2], [.int .i64 x.f3.f0, .int .i64 x.f3.f1, .int .u8 x.f3.f2, .int .i64 x.f3.f3], rfl, ⟨v2, rfl, g2⟩, (k35_mkM w base ok x.f3 )⟩⟩⟩
def rd_T59 (xs : List S59) (i : Int) : S59 := xs.getD i.toNat z59
theorem at_T59 {w : World} {A : Option Addr} {n : Nat} {xs : List S59} (h : Kd.C k59 w A n xs) (i : Int) (h0 : 0 ≤ i) (h1 : i < n) : ∃ ad A2 c2, A = some ad ∧ w.cell? (ad.add (i.toNat * 7)) = some (.int .u8 (rd_T59 xs i).f0) ∧ w.cell? ⟨(ad.add (i.toNat * 7)).block, (ad.add (i.toNat * 7)).off + 1, none⟩ = some (.int .i64 (rd_T59 xs i).f1) ∧ w.cell? ⟨(ad.add (i.toNat * 7)).block, (ad.add (i.toNat * 7)).off + 2, none⟩ = some (.slice A2 (rd_T59 xs i).f2.length c2) ∧ w.cell? ⟨(ad.add (i.toNat * 7)).block, (ad.add (i.toNat * 7)).off + 3, none⟩ = some (.int .i64 (rd_T59 xs i).f3.f0) ∧ w.cell? ⟨(ad.add (i.toNat * 7)).block, (ad.add (i.toNat * 7)).off + 4, none⟩ = some (.int .i64 (rd_T59 xs i).f3.f1) ∧ w.cell? ⟨(ad.add (i.toNat * 7)).block, (ad.add (i.toNat * 7)).off + 5, none⟩ = some (.int .u8 (rd_T59 xs i).f3.f2) ∧ w.cell? ⟨(ad.add (i.toNat * 7)).block, (ad.add (i.toNat * 7)).off + 6, none⟩ = some (.int .i64 (rd_T59 xs i).f3.f3) ∧ (rd_T59 xs i).f2.length ≤ c2 ∧ (Kd.int .u8).C w A2 (rd_T59 xs i).f2.length (rd_T59 xs i).f2 := by
 obtain ⟨ad, c, e, _, hK, hc0⟩ := Kd.C_get h z59 i h0 h1; have hc : ∀ j u, c[j]? = some u → w.cell? (ad.add (i.toNat * 7 + j)) = some u := hc0
 obtain ⟨A2, c2, rfl, l2, g2⟩ := k37_open hK; exact ⟨ad, A2, c2, e, hc 0 _ rfl, by rw [← add_field _ _ 1 (by omega)]; exact hc 1 _ rfl, by rw [← add_field _ _ 2 (by omega)]; exact hc 2 _ rfl, by rw [← add_field _ _ 3 (by omega)]; exact hc 3 _ rfl, by rw [← add_field _ _ 4 (by omega)]; exact hc 4 _ rfl, by rw [← add_field _ _ 5 (by omega)]; exact hc 5 _ rfl, by rw [← add_field _ _ 6 (by omega)]; exact hc 6 _ rfl, l2, g2⟩
end Go.Proofs.YthjedmfjmllboaaGreatDoor.PB
namespace Go.Proofs.YthjedmfjmllboaaGreatDoor.PB
open Go.RowKit Go.Proofs.YthjedmfjmllboaaGreatDoorW.PrintWords Go.Proofs.YthjedmfjmllboaaGreatDoorW.PrintLast
theorem eqA36 (d : Nat) (w : World) (x0 y0 : Int) (x1 y1 : Int) (x2 y2 : Int) (x3 y3 : Int) :
    (Op.equalIn (d + 2) 36 (.agg #[.int .i64 x0, .int .i64 x1, .int .u8 x2, .int .i64 x3]) (.agg #[.int .i64 y0, .int .i64 y1, .int .u8 y2, .int .i64 y3])).run Tryz.prog w = .ok (x0 == y0 && (x1 == y1 && (x2 == y2 && (x3 == y3)))) w := by
 refine eqA_of Tryz.underlying36 (by kernel_rfl) ?_; refine eqf_cons (by rfl) (by go_simp; rfl) (by go_simp; rfl) (by go_simp) ?_; refine eqf_cons (by rfl) (by go_simp; rfl) (by go_simp; rfl) (by go_simp) ?_; refine eqf_cons (by rfl) (by go_simp; rfl) (by go_simp; rfl) (by go_simp) ?_; exact eqf_last (by rfl) (by go_simp; rfl) (by go_simp; rfl) (by go_simp)
end Go.Proofs.YthjedmfjmllboaaGreatDoor.PB
namespace Go.Proofs.YthjedmfjmllboaaGreatDoor.PB
open Go.RowKit Go.Proofs.YthjedmfjmllboaaGreatDoorW.PrintWords Go.Proofs.YthjedmfjmllboaaGreatDoorW.PrintLast
def log_Sum.l0 : Nat → Int → List Int → Int → Int → Option (Int)
  | 0, _, _, _, _ => none
  | k + 1, x3, x6, x7, x8 => if x8 < x7 then (if 0 ≤ x8 then (if x8 < (x6.length : Int) then (log_Sum.l0 k (Int.tmod (wrap64 (x3 + (wrap64 ((wrap64 ((wrap64 (rd x6 x8)) + 1)) * (wrap64 (x8 + 1)))))) 65521) x6 x7 (wrap64 (x8 + 1))) else (none)) else (none)) else (some x3)
def log_Sum.f (k : Nat) (l0 : List Int) : Option (Int) := log_Sum.l0 k 0 l0 (l0.length : Int) 0
theorem log_Sum.mono_l : ∀ k, (∀ y0 y1 y2 y3, LeO (log_Sum.l0 k y0 y1 y2 y3) (log_Sum.l0 (k + 1) y0 y1 y2 y3))
  | 0 => fun _ _ _ _ r h => by simp [log_Sum.l0] at h
  | k + 1 => by
    have ih0 := log_Sum.mono_l k
    · intro y0 y1 y2 y3
      unfold log_Sum.l0
      repeat' first
      | (with_reducible exact ih0 _ _ _ _)
      | (with_reducible exact LeO.refl _)
      | (with_reducible exact LeO.none _)
      | (with_reducible refine LeO.ite ?_ ?_)
      | (with_reducible refine LeO.bind ?_ (fun _ => ?_))
      | exact ih0 _ _ _ _
      | exact LeO.none _
      | refine LeO.ite ?_ ?_
      | refine LeO.bind ?_ (fun _ => ?_)
theorem log_Sum.mono : ∀ a0 k, LeO (log_Sum.f k a0) (log_Sum.f (k + 1) a0) := by
 intro a0 k; have ih0 := log_Sum.mono_l k; unfold log_Sum.f
 repeat' first
   | (with_reducible exact ih0 _ _ _ _)
   | (with_reducible exact LeO.refl _)
   | (with_reducible exact LeO.none _)
   | (with_reducible refine LeO.ite ?_ ?_)
   | (with_reducible refine LeO.bind ?_ (fun _ => ?_))
   | exact ih0 _ _ _ _
   | exact LeO.none _
   | refine LeO.ite ?_ ?_
   | refine LeO.bind ?_ (fun _ => ?_)
set_option maxHeartbeats 8000000 in
set_option maxRecDepth 100000 in
theorem log_Sum.calls (k : Nat) (A0 : Option Addr) (c0 : Nat) (l0 : List Int) (r : Int) (w : World) (hr0 : Kd.C (Kd.int .u8) w A0 l0.length l0) (hc0 : l0.length ≤ c0) (h : log_Sum.f k l0 = some r) :
    Calls Tryz.prog 13 #[.slice A0 l0.length c0] w fun e w' => e = .returned (.int .i64 r) ∧ Drawn0 w w' := by
 have HR0 := Aside0.mk hr0; have HC0 := Aside0.mk hc0; clear hr0 hc0; have H := h; unfold log_Sum.f at H; clear h; have H' := Aside0.mk H; clear H; go_enter Tryz.func13, Tryz.ntmps13
 go_wp2
 go_loopg [3, 8] k (fun kq v3 v8 w' => ∃ (x3_1 : Int) (x8_1 : Int), v3 = .int .i64 x3_1 ∧ v8 = .int .i64 x8_1 ∧ Aside0 (log_Sum.l0 kq x3_1 l0 (l0.length : Int) x8_1 = some r) ∧ Aside0 (kq ≤ k) ∧ Drawn0 w w')
 case atStart => exact ⟨(0), (0), (by first | rfl | (simp; done) | (simp [*]; done)), (by first | rfl | (simp; done) | (simp [*]; done)), H', ⟨Nat.le_refl _⟩, by repeat (first | exact Drawn0.refl _ | apply Drawn0.step)⟩
 case round =>
  clear H'; try clear c1
  obtain ⟨x3_1, x8_1, rfl, rfl, HA, HK1, ⟨m1, rfl⟩⟩ := hrel; cases gk with
  | zero => exact absurd HA.out (by simp [log_Sum.l0])
  | succ k1 =>
   have H := HA.out; clear HA; simp only [log_Sum.l0] at H; by_cases c2 : x8_1 < (l0.length : Int); rotate_left
   · rw [if_neg c2] at H; have c2b0 : decide (x8_1 < (l0.length : Int)) = false := decide_eq_false c2; clear c2; obtain rfl := Option.some.inj H; go_wp2
     go_ret
     exact ⟨by first | rfl | (simp; done) | (simp [*]; done), by repeat (first | exact Drawn0.refl _ | apply Drawn0.step)⟩
   rw [if_pos c2] at H; have c2b0 : decide (x8_1 < (l0.length : Int)) = true := decide_eq_true c2; clear c2; by_cases c3 : 0 ≤ x8_1; rotate_left
   · rw [if_neg c3] at H; exact absurd H (by simp)
   rw [if_pos c3] at H; have c3b0 : decide (0 ≤ x8_1) = true := decide_eq_true c3; clear c3; by_cases c4 : x8_1 < (l0.length : Int); rotate_left
   · rw [if_neg c4] at H; exact absurd H (by simp)
   rw [if_pos c4] at H; have c4b0 : decide (x8_1 < (l0.length : Int)) = true := decide_eq_true c4; clear c4; have H' := Aside0.mk H; clear H; have p107 : 0 ≤ (x8_1 : Int) := of_decide_eq_true az; have q107 : x8_1 < (l0.length : Int) := of_decide_eq_true az; obtain ⟨ad107, e107, hx107_0⟩ := Kd.at_int HR0.out x8_1 p107 q107; cases e107
   replace p107 := eq_true p107; replace q107 := eq_true q107; go_wp2
   go_roundg k1
   case measure => have := HK1.out; omega
   case rel => exact ⟨(Int.tmod (wrap64 (x3_1 + (wrap64 ((wrap64 ((wrap64 (rd l0 x8_1)) + 1)) * (wrap64 (x8_1 + 1)))))) 65521), (wrap64 (x8_1 + 1)), (by first | rfl | (simp; done) | (simp [*]; done)), (by first | rfl | (simp; done) | (simp [*]; done)), H', ⟨by have := HK1.out; omega⟩, by repeat (first | exact Drawn0.refl _ | apply Drawn0.step)⟩
def log_two.f (a0 : Int) : Option (List Int) := some (([(wrap64 (Int.tdiv a0 256)) % 256, (Int.tmod a0 256) % 256] : List Int))
set_option maxHeartbeats 8000000 in
set_option maxRecDepth 100000 in
theorem log_two.calls (a0 : Int) (r : List Int) (w : World) (h : log_two.f a0 = some r) :
    Calls Tryz.prog 46 #[.int .i64 a0] w fun e w' => ∃ v0_ : Value, e = .returned (v0_) ∧ Kd.R (Kd.int .u8) 5 w' w.heap.size (fun _ => True) v0_ r ∧ Below w.heap.size w w' := by
 have HB := Aside0.mk (Below.refl w.heap.size w); have H := h; unfold log_two.f at H; clear h; obtain ⟨y116, hy116⟩ : ∃ y_ : List Int, y_ = (([(wrap64 (Int.tdiv a0 256)) % 256, (Int.tmod a0 256) % 256] : List Int)) := ⟨_, rfl⟩
 replace H : (some y116) = some r := wz hy116; have Ny116 := Aside0.mk hy116; clear hy116; obtain rfl := Option.some.inj H; go_enter Tryz.func46, Tryz.ntmps46
 go_wp2_with (first | ((with_reducible refine gate_dst (N := 9) rfl ?_); refine Kd.R_lit (Kd.int .u8) _ 5 ?hg (N := 9) ?hd (xs := ([(wrap64 (Int.tdiv a0 256)) % 256, (Int.tmod a0 256) % 256] : List Int)) (inner := [.int .u8 ((wrap64 (Int.tdiv a0 256)) % 256), .int .u8 ((Int.tmod a0 256) % 256)]) (ok := fun _ => True) (okp := fun _ => True) ?hr ?hp (fun _ hk => hk) trivial (Below.refl _ _) (Nat.le_refl _) (by simp) ?_; (case hd => rfl); (case hg => rfl); (case hr => exact hz); (case hp => exact (Reps.one (show Kd.M (Kd.int .u8) _ _ _ ((wrap64 (Int.tdiv a0 256)) % 256) [.int .u8 ((wrap64 (Int.tdiv a0 256)) % 256)] from rfl) (Reps.one (show Kd.M (Kd.int .u8) _ _ _ ((Int.tmod a0 256) % 256) [.int .u8 ((Int.tmod a0 256) % 256)] from rfl) (Reps.none _ _)))); intro v117 w2 ho3 hb hg_ hnew_; clear hg_ hnew_; (first | rw [← Ny116.out] at ho3 | (simp only [Int.reduceToNat] at ho3; rw [← Ny116.out] at ho3)); have HO118 := Aside0.mk (Kd.R_lower ho3 (below_size bz)); replace HB := Aside0.mk (below_step bz hb); clear hb ho3))
 go_ret
 exact ⟨_, xz, rz HO118, bz⟩
def log_isSite.f (a0 : Int) : Option (Bool) := if a0 ≥ 0 then (some (decide (a0 < 4))) else (some false)
set_option maxHeartbeats 8000000 in
set_option maxRecDepth 100000 in
theorem log_isSite.calls (a0 : Int) (r : Bool) (w : World) (h : log_isSite.f a0 = some r) :
    Calls Tryz.prog 38 #[.int .i64 a0] w fun e w' => e = .returned (.bool r) ∧ Drawn0 w w' := by
 have H := h; unfold log_isSite.f at H; clear h; by_cases c2 : a0 ≥ 0
 · rw [if_pos c2] at H; have c2b0 : decide (0 ≤ a0) = true := decide_eq_true c2; clear c2; obtain rfl := Option.some.inj H; go_enter Tryz.func38, Tryz.ntmps38
   go_wp2
   go_ret
   exact ⟨by first | rfl | (simp; done) | (simp [*]; done), by repeat (first | exact Drawn0.refl _ | apply Drawn0.step)⟩
 rw [if_neg c2] at H; have c2b0 : decide (0 ≤ a0) = false := decide_eq_false c2; clear c2; obtain rfl := Option.some.inj H; go_enter Tryz.func38, Tryz.ntmps38
 go_wp2
 go_ret
 exact ⟨by first | rfl | (simp; done) | (simp [*]; done), by repeat (first | exact Drawn0.refl _ | apply Drawn0.step)⟩
def riposteref26_two.f (a0 : Int) : Option (List Int) := some (([(wrap64 (Int.tdiv a0 256)) % 256, (Int.tmod a0 256) % 256] : List Int))
set_option maxHeartbeats 8000000 in
set_option maxRecDepth 100000 in
theorem riposteref26_two.calls (a0 : Int) (r : List Int) (w : World) (h : riposteref26_two.f a0 = some r) :
    Calls Tryz.prog 48 #[.int .i64 a0] w fun e w' => ∃ v0_ : Value, e = .returned (v0_) ∧ Kd.R (Kd.int .u8) 5 w' w.heap.size (fun _ => True) v0_ r ∧ Below w.heap.size w w' := by
 have HB := Aside0.mk (Below.refl w.heap.size w); have H := h; unfold riposteref26_two.f at H; clear h; obtain ⟨y195, hy195⟩ : ∃ y_ : List Int, y_ = (([(wrap64 (Int.tdiv a0 256)) % 256, (Int.tmod a0 256) % 256] : List Int)) := ⟨_, rfl⟩
 replace H : (some y195) = some r := wz hy195; have Ny195 := Aside0.mk hy195; clear hy195; obtain rfl := Option.some.inj H; go_enter Tryz.func48, Tryz.ntmps48
 go_wp2_with (first | ((with_reducible refine gate_dst (N := 9) rfl ?_); refine Kd.R_lit (Kd.int .u8) _ 5 ?hg (N := 9) ?hd (xs := ([(wrap64 (Int.tdiv a0 256)) % 256, (Int.tmod a0 256) % 256] : List Int)) (inner := [.int .u8 ((wrap64 (Int.tdiv a0 256)) % 256), .int .u8 ((Int.tmod a0 256) % 256)]) (ok := fun _ => True) (okp := fun _ => True) ?hr ?hp (fun _ hk => hk) trivial (Below.refl _ _) (Nat.le_refl _) (by simp) ?_; (case hd => rfl); (case hg => rfl); (case hr => exact hz); (case hp => exact (Reps.one (show Kd.M (Kd.int .u8) _ _ _ ((wrap64 (Int.tdiv a0 256)) % 256) [.int .u8 ((wrap64 (Int.tdiv a0 256)) % 256)] from rfl) (Reps.one (show Kd.M (Kd.int .u8) _ _ _ ((Int.tmod a0 256) % 256) [.int .u8 ((Int.tmod a0 256) % 256)] from rfl) (Reps.none _ _)))); intro v196 w2 ho3 hb hg_ hnew_; clear hg_ hnew_; (first | rw [← Ny195.out] at ho3 | (simp only [Int.reduceToNat] at ho3; rw [← Ny195.out] at ho3)); have HO197 := Aside0.mk (Kd.R_lower ho3 (below_size bz)); replace HB := Aside0.mk (below_step bz hb); clear hb ho3))
 go_ret
 exact ⟨_, xz, rz HO197, bz⟩
def riposteref26_Sum.l0 : Nat → List Int → Int → Int → Option (Int)
  | 0, _, _, _ => none
  | k + 1, x0, x3, x4 => if x4 < (x0.length : Int) then (if 0 ≤ x4 then (riposteref26_Sum.l0 k x0 (Int.tmod (wrap64 (x3 + (wrap64 ((wrap64 (x4 + 1)) * (wrap64 ((wrap64 (rd x0 x4)) + 1)))))) 65521) (wrap64 (x4 + 1))) else (none)) else (some x3)
def riposteref26_Sum.f (k : Nat) (l0 : List Int) : Option (Int) := riposteref26_Sum.l0 k l0 0 0
theorem riposteref26_Sum.mono_l : ∀ k, (∀ y0 y1 y2, LeO (riposteref26_Sum.l0 k y0 y1 y2) (riposteref26_Sum.l0 (k + 1) y0 y1 y2))
  | 0 => fun _ _ _ r h => by simp [riposteref26_Sum.l0] at h
  | k + 1 => by
    have ih0 := riposteref26_Sum.mono_l k
    · intro y0 y1 y2
      unfold riposteref26_Sum.l0
      repeat' first
      | (with_reducible exact ih0 _ _ _)
      | (with_reducible exact LeO.refl _)
      | (with_reducible exact LeO.none _)
      | (with_reducible refine LeO.ite ?_ ?_)
      | (with_reducible refine LeO.bind ?_ (fun _ => ?_))
      | exact ih0 _ _ _
      | exact LeO.none _
      | refine LeO.ite ?_ ?_
      | refine LeO.bind ?_ (fun _ => ?_)
theorem riposteref26_Sum.mono : ∀ a0 k, LeO (riposteref26_Sum.f k a0) (riposteref26_Sum.f (k + 1) a0) := by
 intro a0 k; have ih0 := riposteref26_Sum.mono_l k; unfold riposteref26_Sum.f
 repeat' first
   | (with_reducible exact ih0 _ _ _)
   | (with_reducible exact LeO.refl _)
   | (with_reducible exact LeO.none _)
   | (with_reducible refine LeO.ite ?_ ?_)
   | (with_reducible refine LeO.bind ?_ (fun _ => ?_))
   | exact ih0 _ _ _
   | exact LeO.none _
   | refine LeO.ite ?_ ?_
   | refine LeO.bind ?_ (fun _ => ?_)
set_option maxHeartbeats 8000000 in
set_option maxRecDepth 100000 in
theorem riposteref26_Sum.calls (k : Nat) (A0 : Option Addr) (c0 : Nat) (l0 : List Int) (r : Int) (w : World) (hr0 : Kd.C (Kd.int .u8) w A0 l0.length l0) (hc0 : l0.length ≤ c0) (h : riposteref26_Sum.f k l0 = some r) :
    Calls Tryz.prog 14 #[.slice A0 l0.length c0] w fun e w' => e = .returned (.int .i64 r) ∧ Drawn0 w w' := by
 have HR0 := Aside0.mk hr0; have HC0 := Aside0.mk hc0; clear hr0 hc0; have H := h; unfold riposteref26_Sum.f at H; clear h; have H' := Aside0.mk H; clear H; go_enter Tryz.func14, Tryz.ntmps14
 go_wp2
 go_loopg [3, 4] k (fun kq v3 v4 w' => ∃ (x3_1 : Int) (x4_1 : Int), v3 = .int .i64 x3_1 ∧ v4 = .int .i64 x4_1 ∧ Aside0 (riposteref26_Sum.l0 kq l0 x3_1 x4_1 = some r) ∧ Aside0 (kq ≤ k) ∧ Drawn0 w w')
 case atStart => exact ⟨(0), (0), (by first | rfl | (simp; done) | (simp [*]; done)), (by first | rfl | (simp; done) | (simp [*]; done)), H', ⟨Nat.le_refl _⟩, by repeat (first | exact Drawn0.refl _ | apply Drawn0.step)⟩
 case round =>
  clear H'; try clear c1
  obtain ⟨x3_1, x4_1, rfl, rfl, HA, HK1, ⟨m1, rfl⟩⟩ := hrel; cases gk with
  | zero => exact absurd HA.out (by simp [riposteref26_Sum.l0])
  | succ k1 =>
   have H := HA.out; clear HA; simp only [riposteref26_Sum.l0] at H; by_cases c2 : x4_1 < (l0.length : Int); rotate_left
   · rw [if_neg c2] at H; have c2b0 : decide (x4_1 < (l0.length : Int)) = false := decide_eq_false c2; clear c2; obtain rfl := Option.some.inj H; go_wp2
     go_ret
     exact ⟨by first | rfl | (simp; done) | (simp [*]; done), by repeat (first | exact Drawn0.refl _ | apply Drawn0.step)⟩
   rw [if_pos c2] at H; have c2b0 : decide (x4_1 < (l0.length : Int)) = true := decide_eq_true c2; clear c2; by_cases c3 : 0 ≤ x4_1; rotate_left
   · rw [if_neg c3] at H; exact absurd H (by simp)
   rw [if_pos c3] at H; have c3b0 : decide (0 ≤ x4_1) = true := decide_eq_true c3; clear c3; have H' := Aside0.mk H; clear H; have p194 : 0 ≤ (x4_1 : Int) := of_decide_eq_true az; have q194 : x4_1 < (l0.length : Int) := of_decide_eq_true az; obtain ⟨ad194, e194, hx194_0⟩ := Kd.at_int HR0.out x4_1 p194 q194; cases e194
   replace p194 := eq_true p194; replace q194 := eq_true q194; go_wp2
   go_roundg k1
   case measure => have := HK1.out; omega
   case rel => exact ⟨(Int.tmod (wrap64 (x3_1 + (wrap64 ((wrap64 (x4_1 + 1)) * (wrap64 ((wrap64 (rd l0 x4_1)) + 1)))))) 65521), (wrap64 (x4_1 + 1)), (by first | rfl | (simp; done) | (simp [*]; done)), (by first | rfl | (simp; done) | (simp [*]; done)), H', ⟨by have := HK1.out; omega⟩, by repeat (first | exact Drawn0.refl _ | apply Drawn0.step)⟩
end Go.Proofs.YthjedmfjmllboaaGreatDoor.PB
namespace Go.Proofs.YthjedmfjmllboaaGreatDoor.PB
open Go.RowKit Go.Proofs.YthjedmfjmllboaaGreatDoorW.PrintWords Go.Proofs.YthjedmfjmllboaaGreatDoorW.PrintLast
attribute [local go_sem high] eqA36
def log_isMove.f (a0_0 : Int) (a0_1 : Int) (a0_2 : Int) (a0_3 : Int) : Option (Bool) := if a0_0 ≥ 0 then (if a0_0 ≤ 255 then (if a0_1 ≥ 0 then (if a0_1 ≤ 255 then (if (wrap64 (a0_3 + 1)) ≥ 0 then (if (wrap64 (a0_3 + 1)) ≤ 255 then (if a0_2 ≥ 1 then (some (decide (a0_2 ≤ 3))) else (some false)) else (some false)) else (some false)) else (some false)) else (some false)) else (some false)) else (some false)
theorem y42 {p : Prop} (h : p := by
 go_enter Tryz.func42, Tryz.ntmps42
 go_wp2_with (first | ((with_reducible refine gate_dst (N := 1) rfl ?_); refine box_event ?hg (N := 1) ?hd (cs := #[.int .i64 a0_0, .int .i64 a0_1, .int .u8 a0_2, .int .i64 a0_3]) (t := 36) ?hr ?_; (case hd => rfl); (case hg => rfl); (case hr => exact hz); intro gb103 hg w_0 hbox hb; have BK103 := Aside0.mk (hbox); have GW103 := Aside0.mk ((gz : w.heap.size ≤ gb103)); have GE103 := Aside0.mk ((gz : w.heap.size ≤ gb103)); replace HB := Aside0.mk (below_step bz hb); clear hb hbox hg; obtain ⟨hcz_0_0, hcz_0_1, hcz_0_2, hcz_0_3⟩ := cz4 BK103.out; obtain ⟨hfz_0_0, hfz_0_1, hfz_0_2, hfz_0_3⟩ := cf4 BK103.out) | go_in)
 go_ret
 exact ⟨xz, bg GE103⟩) : p := h
set_option maxHeartbeats 8000000 in
set_option maxRecDepth 100000 in
theorem log_isMove.calls (a0_0 : Int) (a0_1 : Int) (a0_2 : Int) (a0_3 : Int) (r : Bool) (w : World) (h : log_isMove.f a0_0 a0_1 a0_2 a0_3 = some r) :
    Calls Tryz.prog 42 #[.agg #[.int .i64 a0_0, .int .i64 a0_1, .int .u8 a0_2, .int .i64 a0_3]] w fun e w' => e = .returned (.bool r) ∧ Below w.heap.size w w' := by
 have hu35 := Tryz.underlying36; have HB := Aside0.mk (Below.refl w.heap.size w); have H := h; unfold log_isMove.f at H; clear h; by_cases c2 : a0_0 ≥ 0; rotate_left
 · rw [if_neg c2] at H; have c2b0 : decide (0 ≤ a0_0) = false := decide_eq_false c2; clear c2; obtain rfl := Option.some.inj H; exact y42
 rw [if_pos c2] at H; have c2b0 : decide (0 ≤ a0_0) = true := decide_eq_true c2; clear c2; by_cases c3 : a0_0 ≤ 255; rotate_left
 · rw [if_neg c3] at H; have c3b0 : decide (a0_0 ≤ 255) = false := decide_eq_false c3; clear c3; obtain rfl := Option.some.inj H; exact y42
 rw [if_pos c3] at H; have c3b0 : decide (a0_0 ≤ 255) = true := decide_eq_true c3; clear c3; by_cases c4 : a0_1 ≥ 0; rotate_left
 · rw [if_neg c4] at H; have c4b0 : decide (0 ≤ a0_1) = false := decide_eq_false c4; clear c4; obtain rfl := Option.some.inj H; exact y42
 rw [if_pos c4] at H; have c4b0 : decide (0 ≤ a0_1) = true := decide_eq_true c4; clear c4; by_cases c5 : a0_1 ≤ 255; rotate_left
 · rw [if_neg c5] at H; have c5b0 : decide (a0_1 ≤ 255) = false := decide_eq_false c5; clear c5; obtain rfl := Option.some.inj H; exact y42
 rw [if_pos c5] at H; have c5b0 : decide (a0_1 ≤ 255) = true := decide_eq_true c5; clear c5; by_cases c6 : (wrap64 (a0_3 + 1)) ≥ 0; rotate_left
 · rw [if_neg c6] at H; have c6b0 : decide (0 ≤ (wrap64 (a0_3 + 1))) = false := decide_eq_false c6; clear c6; obtain rfl := Option.some.inj H; exact y42
 rw [if_pos c6] at H; have c6b0 : decide (0 ≤ (wrap64 (a0_3 + 1))) = true := decide_eq_true c6; clear c6; by_cases c7 : (wrap64 (a0_3 + 1)) ≤ 255; rotate_left
 · rw [if_neg c7] at H; have c7b0 : decide ((wrap64 (a0_3 + 1)) ≤ 255) = false := decide_eq_false c7; clear c7; obtain rfl := Option.some.inj H; exact y42
 rw [if_pos c7] at H; have c7b0 : decide ((wrap64 (a0_3 + 1)) ≤ 255) = true := decide_eq_true c7; clear c7; by_cases c8 : a0_2 ≥ 1
 · rw [if_pos c8] at H; have c8b0 : decide (1 ≤ a0_2) = true := decide_eq_true c8; clear c8; obtain rfl := Option.some.inj H; exact y42
 rw [if_neg c8] at H; have c8b0 : decide (1 ≤ a0_2) = false := decide_eq_false c8; clear c8; obtain rfl := Option.some.inj H; exact y42
end Go.Proofs.YthjedmfjmllboaaGreatDoor.PB
namespace Go.Proofs.YthjedmfjmllboaaGreatDoor.PB
open Go.RowKit Go.Proofs.YthjedmfjmllboaaGreatDoorW.PrintWords Go.Proofs.YthjedmfjmllboaaGreatDoorW.PrintLast
attribute [local go_sem high] eqA36
def log_isEntry.f (a0_0 : Int) (a0_1 : Int) (l0_2 : List Int) (a0_3 : Int) (a0_4 : Int) (a0_5 : Int) (a0_6 : Int) : Option (Bool) := if a0_0 = 1 then ((log_isSite.f a0_1).bind fun t105 => (if t105 = true then (if (l0_2.length : Int) > 0 then (if (l0_2.length : Int) ≤ 2000 then (some (a0_3 == 0 && (a0_4 == 0 && (a0_5 == 0 && (a0_6 == 0))))) else (some false)) else (some false)) else (some false))) else (if a0_0 = 2 then (if a0_1 = 0 then (if (l0_2.length : Int) = 0 then ((log_isMove.f a0_3 a0_4 a0_5 a0_6).bind fun t106 => (some t106)) else (some false)) else (some false)) else (some false))
theorem y22 {p : Prop} (h : p := by
 go_enter Tryz.func22, Tryz.ntmps22
 go_wp2_with (first | ((with_reducible refine gate_dst (N := 1) rfl ?_); (try (refine gate_guard (by rfl) ?_; dsimp only)); refine box_event ?hg (N := 1) ?hd (cs := #[.int .u8 a0_0, .int .i64 a0_1, .slice A0_2 l0_2.length c0_2, .int .i64 a0_3, .int .i64 a0_4, .int .u8 a0_5, .int .i64 a0_6]) (t := 59) ?hr ?_; (case hd => rfl); (case hg => rfl); (case hr => exact hz); intro gb104 hg w_0 hbox hb; have BK104 := Aside0.mk (hbox); have GW104 := Aside0.mk ((gz : w.heap.size ≤ gb104)); have GE104 := Aside0.mk ((gz : w.heap.size ≤ gb104)); replace HB := Aside0.mk (below_step bz hb); clear hb hbox hg; obtain ⟨hcz_0_0, hcz_0_1, hcz_0_2, hcz_0_3, hcz_0_4, hcz_0_5, hcz_0_6⟩ := cz7 BK104.out; obtain ⟨hfz_0_0, hfz_0_1, hfz_0_2, hfz_0_3, hfz_0_4, hfz_0_5, hfz_0_6⟩ := cf7 BK104.out) | ((with_reducible refine gate_callee (f := 38) rfl ?_); refine goesL_ (some 9) rfl rfl Tryz.func38 (by kernel_rfl) rfl #[.int .i64 a0_1] rfl lz ?_; (with_reducible refine (log_isSite.calls a0_1 _ _ A3.out).mono ?_); rintro e w' ⟨rfl, ⟨nd, rfl⟩⟩; refine ⟨_, rfl, ?_⟩) | (go_at_call 42; (with_reducible refine (log_isMove.calls a0_3 a0_4 a0_5 a0_6 t106 _ A18.out).mono ?_); rintro e w_1 ⟨rfl, hb⟩; replace BK104 := Aside0.mk (blk_below (kz BK104) hb); replace HB := Aside0.mk (below_step (bg GE104) hb); (try clear hb); (try clear hb2); (try clear hk); (try clear hi)))
 go_ret
 exact ⟨xz, bg GE104⟩) : p := h
set_option maxHeartbeats 8000000 in
set_option maxRecDepth 100000 in
theorem log_isEntry.calls (a0_0 : Int) (a0_1 : Int) (A0_2 : Option Addr) (c0_2 : Nat) (l0_2 : List Int) (a0_3 : Int) (a0_4 : Int) (a0_5 : Int) (a0_6 : Int) (r : Bool) (w : World) (hr0_2 : Kd.C (Kd.int .u8) w A0_2 l0_2.length l0_2) (hc0_2 : l0_2.length ≤ c0_2) (h : log_isEntry.f a0_0 a0_1 l0_2 a0_3 a0_4 a0_5 a0_6 = some r) :
    Calls Tryz.prog 22 #[.agg #[.int .u8 a0_0, .int .i64 a0_1, .slice A0_2 l0_2.length c0_2, .int .i64 a0_3, .int .i64 a0_4, .int .u8 a0_5, .int .i64 a0_6]] w fun e w' => e = .returned (.bool r) ∧ Below w.heap.size w w' := by
 have hu37 := Tryz.underlying59; have hu35 := Tryz.underlying36; have HR0_2 := Aside0.mk hr0_2; have HC0_2 := Aside0.mk hc0_2; clear hr0_2 hc0_2; have HB := Aside0.mk (Below.refl w.heap.size w); have H := h; unfold log_isEntry.f at H; clear h; by_cases c2 : a0_0 = 1; rotate_left
 · rw [if_neg c2] at H; have c2b0 := beq_eq_false_iff_ne.mpr c2; have c2b1 := bne_iff_ne.mpr c2; by_cases c15 : a0_0 = 2; rotate_left
   · rw [if_neg c15] at H; have c15b0 := beq_eq_false_iff_ne.mpr c15; have c15b1 := bne_iff_ne.mpr c15; obtain rfl := Option.some.inj H; exact y22
   rw [if_pos c15] at H; have c15b0 := beq_iff_eq.mpr c15; have c15b1 := bne_eq_false_iff_eq.mpr c15; clear c15; by_cases c16 : a0_1 = 0; rotate_left
   · rw [if_neg c16] at H; have c16b0 := beq_eq_false_iff_ne.mpr c16; have c16b1 := bne_iff_ne.mpr c16; obtain rfl := Option.some.inj H; exact y22
   rw [if_pos c16] at H; have c16b0 := beq_iff_eq.mpr c16; have c16b1 := bne_eq_false_iff_eq.mpr c16; clear c16; by_cases c17 : (l0_2.length : Int) = 0; rotate_left
   · rw [if_neg c17] at H; have c17b0 := beq_eq_false_iff_ne.mpr c17; have c17b1 := bne_iff_ne.mpr c17; have c17b2 : ¬ (l0_2 = []) := fun h_ => c17 (by rw [h_]; rfl)
     obtain rfl := Option.some.inj H; exact y22
   rw [if_pos c17] at H; have c17b0 := beq_iff_eq.mpr c17; have c17b1 := bne_eq_false_iff_eq.mpr c17; clear c17; replace H := Option.bind_eq_some_iff.mp H; obtain ⟨t106, A180, H⟩ := H; have A18 := Aside0.mk A180; clear A180; obtain rfl := Option.some.inj H; exact y22
 rw [if_pos c2] at H; have c2b0 := beq_iff_eq.mpr c2; have c2b1 := bne_eq_false_iff_eq.mpr c2; clear c2; replace H := Option.bind_eq_some_iff.mp H; obtain ⟨t105, A30, H⟩ := H; have A3 := Aside0.mk A30; clear A30; by_cases c4 : t105 = true; rotate_left
 · replace c4 := Bool.eq_false_iff.mpr c4; subst c4; rw [if_neg (show ¬ (false = true) by decide)] at H; obtain rfl := Option.some.inj H; exact y22
 subst c4; rw [if_pos rfl] at H; by_cases c5 : (l0_2.length : Int) > 0; rotate_left
 · rw [if_neg c5] at H; have c5b0 : decide (0 < (l0_2.length : Int)) = false := decide_eq_false c5; have c5b1 : decide (0 < l0_2.length) = false := decide_eq_false (by omega); clear c5; obtain rfl := Option.some.inj H; exact y22
 rw [if_pos c5] at H; have c5b0 : decide (0 < (l0_2.length : Int)) = true := decide_eq_true c5; have c5b1 : decide (0 < l0_2.length) = true := decide_eq_true (by omega); clear c5; by_cases c6 : (l0_2.length : Int) ≤ 2000
 · rw [if_pos c6] at H; have c6b0 : decide ((l0_2.length : Int) ≤ 2000) = true := decide_eq_true c6; have c6b1 : decide (l0_2.length ≤ 2000) = true := decide_eq_true (by omega); clear c6; obtain rfl := Option.some.inj H; exact y22
 rw [if_neg c6] at H; have c6b0 : decide ((l0_2.length : Int) ≤ 2000) = false := decide_eq_false c6; have c6b1 : decide (l0_2.length ≤ 2000) = false := decide_eq_false (by omega); clear c6; obtain rfl := Option.some.inj H; exact y22
end Go.Proofs.YthjedmfjmllboaaGreatDoor.PB
namespace Go.Proofs.YthjedmfjmllboaaGreatDoor.PB
open Go.RowKit Go.Proofs.YthjedmfjmllboaaGreatDoorW.PrintWords Go.Proofs.YthjedmfjmllboaaGreatDoorW.PrintLast
theorem eqlNil (A : Option Addr) (n c : Nat) (W : World) : (binOp .eql 23 (.slice A n c) (.slice none 0 0)).run Tryz.prog W = .ok (.bool A.isNone) W := by
 simp only [binOp]; simp [run_equal_slice_nil W 23 5 A n c Tryz.underlying23]
attribute [local go_sem] eqlNil
def slices_Clone_byte_byte.f (l0 : List Int) : Option (List Int) := (some (([] : List Int) : List Int)).bind fun y258 => (if y258.length + l0.length < 140737488355328 then (some (y258 ++ l0)) else (none))
set_option maxHeartbeats 8000000 in
set_option maxRecDepth 100000 in
theorem slices_Clone_byte_byte.calls (A0 : Option Addr) (c0 : Nat) (l0 : List Int) (r : List Int) (w : World) (hr0 : Kd.C (Kd.int .u8) w A0 l0.length l0) (hc0 : l0.length ≤ c0) (h : slices_Clone_byte_byte.f l0 = some r) :
    Calls Tryz.prog 49 #[.slice A0 l0.length c0] w fun e w' => ∃ v0_ : Value, e = .returned (v0_) ∧ Kd.R (Kd.int .u8) 5 w' w.heap.size (fun _ => True) v0_ r ∧ Below w.heap.size w w' := by
 cases A0 with
 | none =>
  have hn : l0 = [] := by
    rcases Nat.eq_zero_or_pos l0.length with h0 | h0
    · exact List.eq_nil_of_length_eq_zero h0
    · obtain ⟨ad, e, _⟩ := hr0.2.2 h0
      cases e
  subst hn; have hr : r = [] := by simpa [slices_Clone_byte_byte.f] using h.symm
  subst hr; go_enter Tryz.func49, Tryz.ntmps49
  go_wp2
  go_ret
  exact ⟨_, rfl, Kd.R_nil _ _ _ _ _, Below.refl _ _⟩
 | some ad =>
  have HR0 := Aside0.mk hr0; have HC0 := Aside0.mk hc0; clear hr0 hc0; have HB := Aside0.mk (Below.refl w.heap.size w); have H := h; unfold slices_Clone_byte_byte.f at H; clear h; obtain ⟨y258, hy258⟩ : ∃ y_ : List Int, y_ = (([] : List Int)) := ⟨_, rfl⟩
  replace H : (if y258.length + l0.length < 140737488355328 then (some (y258 ++ l0)) else (none)) = some r := wz hy258; have Ny258 := Aside0.mk hy258; clear hy258; by_cases c2 : y258.length + l0.length < 140737488355328; rotate_left
  · rw [if_neg c2] at H; exact absurd H (by simp)
  rw [if_pos c2] at H; have LMc2 := Aside0.mk c2; clear c2; obtain ⟨y261, hy261⟩ : ∃ y_ : List Int, y_ = (y258 ++ l0) := ⟨_, rfl⟩
  replace H : (some y261) = some r := wz hy261; have Ny261 := Aside0.mk hy261; clear hy261; obtain rfl := Option.some.inj H; go_enter Tryz.func49, Tryz.ntmps49
  go_wp2_with (first | ((with_reducible refine gate_dst (N := 5) rfl ?_); refine Kd.R_lit (Kd.int .u8) _ 5 ?hg (N := 5) ?hd (xs := ([] : List Int)) (inner := []) (ok := fun _ => True) (okp := fun _ => True) ?hr ?hp (fun _ hk => hk) trivial (Below.refl _ _) (Nat.le_refl _) (by simp) ?_; (case hd => rfl); (case hg => rfl); (case hr => exact hz); (case hp => exact (Reps.none _ _)); intro v259 w3 ho4 hb hg_ hnew_; clear hg_ hnew_; (first | rw [← Ny258.out] at ho4 | (simp only [Int.reduceToNat] at ho4; rw [← Ny258.out] at ho4)); have HO260 := Aside0.mk (Kd.R_lower ho4 (below_size bz)); replace HB := Aside0.mk (below_step bz hb); clear hb ho4) | ((with_reducible refine gate_builtin (b := .append) (xs := #[.tmp 5, .tmp 6]) rfl ?_); at_builtin; refine Kd.R_append_rows (Kd.int .u8) (w0 := w) w.heap.size rfl (.tmp 5) (.tmp 6) 23 5 (.int .u8 0) 1 rfl Tryz.underlying23 info5 rfl (by decide) (by omega) v259 y258 l0 _ _ _ (fun _ => True) (fun _ => False) rfl rfl ?aO ?aR (fun _ _ h => h) (fun _ h => h.elim) ?aF ?aB ?aS ?aL ?_; (case aR => exact cz (Kd.C_below HR0.out HB.out)); (case aB => exact bz); (case aF => exact (fun _ _ => trivial)); (case aO => exact (rz HO260)); (case aS => exact (below_size bz)); (case aL => have := LMc2.out; omega); intro v262 w5 ho hb hg hat; rw [← Ny261.out] at ho; replace HB := Aside0.mk (hb); have HO263 := Aside0.mk (ho); clear HO260; clear ho hb hg hat))
  go_ret
  exact ⟨_, xz, rz HO263, bz⟩
end Go.Proofs.YthjedmfjmllboaaGreatDoor.PB
namespace Go.Proofs.YthjedmfjmllboaaGreatDoor.PB
open Go.RowKit Go.Proofs.YthjedmfjmllboaaGreatDoorW.PrintWords Go.Proofs.YthjedmfjmllboaaGreatDoorW.PrintLast
attribute [local go_sem high] eqA36
def riposteref26_CopyEntries.l0 : Nat → List (S59) → List (S59) → Int → Option ((List (S59)))
  | 0, _, _, _ => none
  | k + 1, x0, x3, x4 => if x4 < (x0.length : Int) then (if 0 ≤ x4 then (if ([] : List Int).length + ((rd_T59 x0 x4).f2).length < 140737488355328 then (if x3.length < 1954687338268 then (riposteref26_CopyEntries.l0 k x0 (x3 ++ [(⟨(rd_T59 x0 x4).f0, (rd_T59 x0 x4).f1, (([] : List Int) ++ ((rd_T59 x0 x4).f2)), (⟨(rd_T59 x0 x4).f3.f0, (rd_T59 x0 x4).f3.f1, (rd_T59 x0 x4).f3.f2, (rd_T59 x0 x4).f3.f3⟩ : S36)⟩ : S59)]) (wrap64 (x4 + 1))) else (none)) else (none)) else (none)) else (some x3)
def riposteref26_CopyEntries.f (k : Nat) (l0 : List (S59)) : Option ((List (S59))) := riposteref26_CopyEntries.l0 k l0 ([] : List (S59)) 0
theorem riposteref26_CopyEntries.mono_l : ∀ k, (∀ y0 y1 y2, LeO (riposteref26_CopyEntries.l0 k y0 y1 y2) (riposteref26_CopyEntries.l0 (k + 1) y0 y1 y2))
  | 0 => fun _ _ _ r h => by simp [riposteref26_CopyEntries.l0] at h
  | k + 1 => by
    have ih0 := riposteref26_CopyEntries.mono_l k
    · intro y0 y1 y2
      unfold riposteref26_CopyEntries.l0
      repeat' first
      | (with_reducible exact ih0 _ _ _)
      | (with_reducible exact LeO.refl _)
      | (with_reducible exact LeO.none _)
      | (with_reducible refine LeO.ite ?_ ?_)
      | (with_reducible refine LeO.bind ?_ (fun _ => ?_))
      | exact ih0 _ _ _
      | exact LeO.none _
      | refine LeO.ite ?_ ?_
      | refine LeO.bind ?_ (fun _ => ?_)
theorem riposteref26_CopyEntries.mono : ∀ a0 k, LeO (riposteref26_CopyEntries.f k a0) (riposteref26_CopyEntries.f (k + 1) a0) := by
 intro a0 k; have ih0 := riposteref26_CopyEntries.mono_l k; unfold riposteref26_CopyEntries.f
 repeat' first
   | (with_reducible exact ih0 _ _ _)
   | (with_reducible exact LeO.refl _)
   | (with_reducible exact LeO.none _)
   | (with_reducible refine LeO.ite ?_ ?_)
   | (with_reducible refine LeO.bind ?_ (fun _ => ?_))
   | exact ih0 _ _ _
   | exact LeO.none _
   | refine LeO.ite ?_ ?_
   | refine LeO.bind ?_ (fun _ => ?_)
set_option maxHeartbeats 8000000 in
set_option maxRecDepth 100000 in
theorem riposteref26_CopyEntries.calls (k : Nat) (A0 : Option Addr) (c0 : Nat) (l0 : List (S59)) (r : List (S59)) (w : World) (hr0 : Kd.C k59 w A0 l0.length l0) (hc0 : l0.length ≤ c0) (h : riposteref26_CopyEntries.f k l0 = some r) :
    Calls Tryz.prog 8 #[.slice A0 l0.length c0] w fun e w' => ∃ v0_ : Value, e = .returned (v0_) ∧ Kd.S k59 59 w' w.heap.size (fun _ => True) v0_ r ∧ Below w.heap.size w w' := by
 have hu37 := Tryz.underlying59; have HR0 := Aside0.mk hr0; have HC0 := Aside0.mk hc0; clear hr0 hc0; have HB := Aside0.mk (Below.refl w.heap.size w); have H := h; unfold riposteref26_CopyEntries.f at H; clear h; have H' := Aside0.mk H; clear H; go_enter Tryz.func8, Tryz.ntmps8
 go_wp2
 go_loopg [3, 4] k (fun kq v3 v4 w' => ∃ (x3_1 : List (S59)) (x4_1 : Int), v4 = .int .i64 x4_1 ∧ Aside0 (riposteref26_CopyEntries.l0 kq l0 x3_1 x4_1 = some r) ∧ Aside0 (kq ≤ k) ∧ Aside0 (Kd.S k59 59 w' w.heap.size (fun _ => True) v3 x3_1) ∧ Aside0 (Below w.heap.size w w'))
 case atStart => exact ⟨(([] : List (S59))), (0), (by first | rfl | (simp; done) | (simp [*]; done)), H', ⟨Nat.le_refl _⟩, ⟨by first | exact Kd.S_nil _ _ _ _ _ | exact Kd.N_nil _ _ _ _ _ | exact Kd.V_nil _ _ _ _ _ | exact Kd.Q_nil _ _ _ _ _ | exact Kd.R_nil _ _ _ _ _⟩, ⟨bz⟩⟩
 case round =>
  clear H'; obtain ⟨x3_1, x4_1, rfl, HA, HK1, HO_3, HB⟩ := hrel; cases gk with
  | zero => exact absurd HA.out (by simp [riposteref26_CopyEntries.l0])
  | succ k1 =>
   have H := HA.out; clear HA; simp only [riposteref26_CopyEntries.l0] at H; by_cases c2 : x4_1 < (l0.length : Int); rotate_left
   · rw [if_neg c2] at H; have c2b0 : decide (x4_1 < (l0.length : Int)) = false := decide_eq_false c2; clear c2; obtain rfl := Option.some.inj H; go_wp2
     go_ret
     exact ⟨_, xz, sz HO_3, bz⟩
   rw [if_pos c2] at H; have c2b0 : decide (x4_1 < (l0.length : Int)) = true := decide_eq_true c2; clear c2; by_cases c3 : 0 ≤ x4_1; rotate_left
   · rw [if_neg c3] at H; exact absurd H (by simp)
   rw [if_pos c3] at H; have c3b0 : decide (0 ≤ x4_1) = true := decide_eq_true c3; clear c3; by_cases c4 : ([] : List Int).length + ((rd_T59 l0 x4_1).f2).length < 140737488355328; rotate_left
   · rw [if_neg c4] at H; exact absurd H (by simp)
   rw [if_pos c4] at H; have LMc4 := Aside0.mk c4; clear c4; obtain ⟨y180, hy180⟩ : ∃ y_ : List Int, y_ = (([] : List Int) ++ ((rd_T59 l0 x4_1).f2)) := ⟨_, rfl⟩
   replace H : (if x3_1.length < 1954687338268 then (riposteref26_CopyEntries.l0 k1 l0 (x3_1 ++ [(⟨(rd_T59 l0 x4_1).f0, (rd_T59 l0 x4_1).f1, y180, (⟨(rd_T59 l0 x4_1).f3.f0, (rd_T59 l0 x4_1).f3.f1, (rd_T59 l0 x4_1).f3.f2, (rd_T59 l0 x4_1).f3.f3⟩ : S36)⟩ : S59)]) (wrap64 (x4_1 + 1))) else (none)) = some r := wz hy180; have Ny180 := Aside0.mk hy180; clear hy180; by_cases c5 : x3_1.length < 1954687338268; rotate_left
   · rw [if_neg c5] at H; exact absurd H (by simp)
   rw [if_pos c5] at H; have LMc5 := Aside0.mk c5; clear c5; obtain ⟨y183, hy183⟩ : ∃ y_ : List (S59), y_ = (x3_1 ++ [(⟨(rd_T59 l0 x4_1).f0, (rd_T59 l0 x4_1).f1, y180, (⟨(rd_T59 l0 x4_1).f3.f0, (rd_T59 l0 x4_1).f3.f1, (rd_T59 l0 x4_1).f3.f2, (rd_T59 l0 x4_1).f3.f3⟩ : S36)⟩ : S59)]) := ⟨_, rfl⟩
   replace H : (riposteref26_CopyEntries.l0 k1 l0 y183 (wrap64 (x4_1 + 1))) = some r := wz hy183; have Ny183 := Aside0.mk hy183; clear hy183; have H' := Aside0.mk H; clear H; have p178 : 0 ≤ (x4_1 : Int) := of_decide_eq_true az; have q178 : x4_1 < (l0.length : Int) := of_decide_eq_true az; obtain ⟨ad178, A178_2, c178_2, e178, hx178_0, hx178_1, hx178_2, hx178_3, hx178_4, hx178_5, hx178_6, hl178_2, hi178_2⟩ := at_T59 HR0.out x4_1 p178 q178; cases e178
   replace hx178_0 := (HB.out.cell (World.block_lt_of_cell? w _ hx178_0)).trans hx178_0; replace hx178_1 := (HB.out.cell (World.block_lt_of_cell? w _ hx178_1)).trans hx178_1; replace hx178_2 := (HB.out.cell (World.block_lt_of_cell? w _ hx178_2)).trans hx178_2; replace hx178_3 := (HB.out.cell (World.block_lt_of_cell? w _ hx178_3)).trans hx178_3; replace hx178_4 := (HB.out.cell (World.block_lt_of_cell? w _ hx178_4)).trans hx178_4; replace hx178_5 := (HB.out.cell (World.block_lt_of_cell? w _ hx178_5)).trans hx178_5; replace hx178_6 := (HB.out.cell (World.block_lt_of_cell? w _ hx178_6)).trans hx178_6; have HR178_2 := Aside0.mk hi178_2; have HC178_2 := Aside0.mk hl178_2; clear hi178_2 hl178_2; replace p178 := eq_true p178; replace q178 := eq_true q178
   go_wp2_with (first | ((with_reducible refine gate_dst (N := 5) rfl ?_); refine box_event ?hg (N := 5) ?hd (cs := #[.int .u8 0, .int .i64 0, .slice none 0 0, .int .i64 0, .int .i64 0, .int .u8 0, .int .i64 0]) (t := 59) ?hr ?_; (case hd => rfl); (case hg => rfl); (case hr => exact hz); intro gb179 hg w6 hbox hb; replace HO_3 := Aside0.mk (Kd.S_below (Kd.S_elderB (sz HO_3) gb179 (Nat.le_of_eq hg.symm)) hb); have BK179 := Aside0.mk (hbox); have GW179 := Aside0.mk ((gz : w.heap.size ≤ gb179)); have GE179 := Aside0.mk ((gz : w.heap.size ≤ gb179)); replace HB := Aside0.mk (below_step bz hb); clear hb hbox hg; obtain ⟨hcz7_0, hcz7_1, hcz7_2, hcz7_3, hcz7_4, hcz7_5, hcz7_6⟩ := cz7 BK179.out; obtain ⟨hfz7_0, hfz7_1, hfz7_2, hfz7_3, hfz7_4, hfz7_5, hfz7_6⟩ := cf7 BK179.out) | ((with_reducible refine gate_builtin (b := .append) (xs := #[.const (.slice none 0 0), .tmp 17]) rfl ?_); at_builtin; refine Kd.R_append_rows (Kd.int .u8) (w0 := w) w.heap.size rfl (.const (.slice none 0 0)) (.tmp 17) 23 5 (.int .u8 0) 1 rfl Tryz.underlying23 info5 rfl (by decide) (by omega) (.slice none 0 0) ([] : List Int) ((rd_T59 l0 x4_1).f2) _ _ _ (fun _ => True) (fun _ => False) rfl rfl ?aO ?aR (fun _ _ h => h) (fun _ h => h.elim) ?aF ?aB ?aS ?aL ?_; (case aR => exact Kd.C_below HR178_2.out (bg GE179)); (case aB => exact (bg GE179)); (case aF => exact (fun _ _ => trivial)); (case aO => exact ((Kd.R_nil _ _ _ _ (fun _ => True)))); (case aS => exact (below_size (bg GE179))); (case aL => have := LMc4.out; omega); intro v181 w8 ho hb hg hat; rw [← Ny180.out] at ho; replace HO_3 := Aside0.mk (Kd.S_after (Kd.S_apart_nil (by (with_reducible repeat (first | apply Kd.S_alloc | apply Kd.S_drewN | apply Kd.S_drew)); exact (Kd.S_mono (Kd.S_far (p := ⟨gb179, 6, none⟩) (Kd.S_far (p := ⟨gb179, 5, none⟩) (Kd.S_far (p := ⟨gb179, 4, none⟩) (Kd.S_far (p := ⟨gb179, 3, none⟩) (Kd.S_far (p := ⟨gb179, 2, none⟩) (Kd.S_far (p := ⟨gb179, 1, none⟩) (Kd.S_far (p := ⟨gb179, 0, none⟩) (Kd.S_mono HO_3.out (fun k_ hk => (⟨hk, hk.2⟩ : _ ∧ k_ ≠ gb179))) (fun _ hk => hk.2) (.int .u8 ((rd_T59 l0 x4_1).f0))) (fun _ hk => hk.2) (.int .i64 ((rd_T59 l0 x4_1).f1))) (fun _ hk => hk.2) (.slice A178_2 ((rd_T59 l0 x4_1).f2).length c178_2)) (fun _ hk => hk.2) (.int .i64 ((rd_T59 l0 x4_1).f3.f0))) (fun _ hk => hk.2) (.int .i64 ((rd_T59 l0 x4_1).f3.f1))) (fun _ hk => hk.2) (.int .u8 ((rd_T59 l0 x4_1).f3.f2))) (fun _ hk => hk.2) (.int .i64 ((rd_T59 l0 x4_1).f3.f3))) (fun _ h_ => h_.1)))) hg hat); replace BK179 := Aside0.mk (blk_grown (g := gb179) (o := .cells #[.int .u8 ((rd_T59 l0 x4_1).f0), .int .i64 ((rd_T59 l0 x4_1).f1), .slice A178_2 ((rd_T59 l0 x4_1).f2).length c178_2, .int .i64 ((rd_T59 l0 x4_1).f3.f0), .int .i64 ((rd_T59 l0 x4_1).f3.f1), .int .u8 ((rd_T59 l0 x4_1).f3.f2), .int .i64 ((rd_T59 l0 x4_1).f3.f3)] 59 (0, 0)) (kp BK179) hg (by simp [Value.ownBlock])); replace HB := Aside0.mk (hb); have HO182 := Aside0.mk (ho); clear ho hb hg hat; obtain ⟨Ao9, co9, eo9⟩ := Kd.R_slice HO182.out; subst eo9; obtain ⟨hcz10_0, hcz10_1, hcz10_2, hcz10_3, hcz10_4, hcz10_5, hcz10_6⟩ := cz7 BK179.out; obtain ⟨hfz10_0, hfz10_1, hfz10_2, hfz10_3, hfz10_4, hfz10_5, hfz10_6⟩ := cf7 BK179.out) | ((with_reducible refine gate_store (t := 23) (p := 19) rfl ?_); refine store_event (t := 23) (p := 19) (v := ?vo_w11) (w1 := (w8.setCell ⟨gb179, 2, none⟩ (.slice Ao9 y180.length co9))) ?hg ?ho ?hn ?hr ?_; (case ho => rfl); (case hg => rfl); (case hn => rfl); (case hr => exact hz); intro w11 hw; have n0_ : Aside0 (Kd.S k59 59 w11 w.heap.size (fun k_ => some k_ ≠ (.slice Ao9 y180.length co9 : Value).ownBlock ∧ k_ ≠ gb179) u3 x3_1) := ⟨(by rw [hw]; exact (by (with_reducible repeat (first | apply Kd.S_alloc | apply Kd.S_drewN | apply Kd.S_drew)); exact Kd.S_mono (Kd.S_far (p := ⟨gb179, 2, none⟩) (Kd.S_mono HO_3.out (fun k_ hk => (⟨hk, hk.1.2⟩ : _ ∧ k_ ≠ gb179))) (fun _ hk => hk.2) (.slice Ao9 y180.length co9)) (fun _ hk => ⟨hk.1.2, hk.1.1.2⟩)))⟩; have n1_ : Aside0 (Kd.R (Kd.int .u8) 5 w11 w.heap.size (fun _ => True) (.slice Ao9 y180.length co9) y180) := ⟨(by rw [hw]; exact (by (with_reducible repeat (first | apply Kd.R_alloc | apply Kd.R_drewN | apply Kd.R_drew)); exact Kd.R_mono (Kd.R_far (p := ⟨gb179, 2, none⟩) (Kd.R_types HO182.out BK179.out (by decide)) (fun _ hk => hk.2) (.slice Ao9 y180.length co9)) (fun _ hk => trivial)))⟩; have n2_ : Aside0 (w11.heap[gb179]? = some (.cells #[.int .u8 ((rd_T59 l0 x4_1).f0), .int .i64 ((rd_T59 l0 x4_1).f1), .slice Ao9 y180.length co9, .int .i64 ((rd_T59 l0 x4_1).f3.f0), .int .i64 ((rd_T59 l0 x4_1).f3.f1), .int .u8 ((rd_T59 l0 x4_1).f3.f2), .int .i64 ((rd_T59 l0 x4_1).f3.f3)] 59 (0, 0))) := ⟨(by rw [hw]; exact (kp BK179))⟩; have n3_ : Aside0 (Below w.heap.size w w11) := ⟨(by rw [hw]; exact (bg GE179))⟩; clear hw; clear HO_3; clear HO182; clear BK179; clear HB; have HO_3 := n0_; have HO182 := n1_; have BK179 := n2_; have HB := n3_; clear n0_ n1_ n2_ n3_; obtain ⟨hcz12_0, hcz12_1, hcz12_2, hcz12_3, hcz12_4, hcz12_5, hcz12_6⟩ := cz7 BK179.out; obtain ⟨hfz12_0, hfz12_1, hfz12_2, hfz12_3, hfz12_4, hfz12_5, hfz12_6⟩ := cf7 BK179.out) | ((with_reducible refine gate_builtin (b := .append) (xs := #[.tmp 20, .tmp 22]) rfl ?_); at_builtin; refine Kd.S_append k59 (w0 := w) w.heap.size rfl (.tmp 20) (.tmp 22) 22 59 (.agg #[(.int .u8 0), (.int .i64 0), (.slice none 0 0), (.int .i64 0), (.int .i64 0), (.int .u8 0), (.int .i64 0)]) 72 rfl Tryz.underlying22 info59 rfl (by decide) (by omega) u3 x3_1 (⟨(rd_T59 l0 x4_1).f0, (rd_T59 l0 x4_1).f1, y180, (⟨(rd_T59 l0 x4_1).f3.f0, (rd_T59 l0 x4_1).f3.f1, (rd_T59 l0 x4_1).f3.f2, (rd_T59 l0 x4_1).f3.f3⟩ : S36)⟩ : S59) [.int .u8 ((rd_T59 l0 x4_1).f0), .int .i64 ((rd_T59 l0 x4_1).f1), .slice Ao9 y180.length co9, .int .i64 ((rd_T59 l0 x4_1).f3.f0), .int .i64 ((rd_T59 l0 x4_1).f3.f1), .int .u8 ((rd_T59 l0 x4_1).f3.f2), .int .i64 ((rd_T59 l0 x4_1).f3.f3)] (fun k_ => k_ ≠ gb179) (fun k_ => some k_ = (.slice Ao9 y180.length co9 : Value).ownBlock) rfl rfl ?aP (fun k_ hk_ => ((Kd.R_mono (ok' := fun k_ => ((fun k_ => k_ ≠ gb179)) k_ ∧ some k_ ≠ (u3 : Value).ownBlock) (Kd.R_types (Kd.R_apart' (HO182.out) (Kd.S_typed HO_3.out) (by decide)) BK179.out (by decide)) (fun k_ hk => ⟨hk.2, hk.1.2⟩))).1 k_ hk_.symm) ?aF ?aO ?aB ?aS ?aL ?_; (case aP => exact k37_mkM _ _ _ (⟨(rd_T59 l0 x4_1).f0, (rd_T59 l0 x4_1).f1, y180, (⟨(rd_T59 l0 x4_1).f3.f0, (rd_T59 l0 x4_1).f3.f1, (rd_T59 l0 x4_1).f3.f2, (rd_T59 l0 x4_1).f3.f3⟩ : S36)⟩ : S59) (Kd.R_mono (Kd.R_tight rfl (Kd.R_mono (ok' := fun k_ => ((fun k_ => k_ ≠ gb179)) k_ ∧ some k_ ≠ (u3 : Value).ownBlock) (Kd.R_types (Kd.R_apart' (HO182.out) (Kd.S_typed HO_3.out) (by decide)) BK179.out (by decide)) (fun k_ hk => ⟨hk.2, hk.1.2⟩))) (fun _ h_ => h_))); (case aB => exact (bg GE179)); (case aF => exact (fun k_ hk => Kd.freshB (kz BK179) k_ hk)); (case aO => exact (by (with_reducible repeat (first | apply Kd.S_alloc | apply Kd.S_drewN | apply Kd.S_drew)); exact Kd.S_mono HO_3.out (fun k_ hk => ⟨hk.2, fun e_ => hk.1 e_⟩))); (case aS => exact (below_size (bg GE179))); (case aL => have := LMc5.out; omega); intro v184 w13 ho hb hg hat; rw [← Ny183.out] at ho; replace BK179 := Aside0.mk (blk_grown (kz BK179) hg (Kd.S_away HO_3.out (fun _ hk => hk.2))); replace HB := Aside0.mk (hb); have HO185 := Aside0.mk (ho); clear HO_3 HO182; clear ho hb hg hat))
   go_roundg k1
   case measure => have := HK1.out; omega
   case rel => exact ⟨(y183), (wrap64 (x4_1 + 1)), (by first | rfl | (simp; done) | (simp [*]; done)), H', ⟨by have := HK1.out; omega⟩, ⟨by (with_reducible repeat (first | apply Kd.S_alloc | apply Kd.S_drewN | apply Kd.S_drew)); exact Kd.S_mono HO185.out (fun _ hk => trivial)⟩, ⟨bg GE179⟩⟩
end Go.Proofs.YthjedmfjmllboaaGreatDoor.PB
namespace Go.Proofs.YthjedmfjmllboaaGreatDoor.PB
open Go.RowKit Go.Proofs.YthjedmfjmllboaaGreatDoorW.PrintWords Go.Proofs.YthjedmfjmllboaaGreatDoorW.PrintLast
theorem nextslicecap_small (n : Nat) (h : 0 < n) : Builtin.nextslicecap n 0 = n := by
 unfold Builtin.nextslicecap; rw [if_pos (by omega)]
theorem grow_calls (n : Nat) (hn : n ≤ 140737488355328) (w : World) :
    Calls Tryz.prog 77 #[.slice none 0 0, .int .i64 (n : Int)] w fun e w' => ∃ v0_ : Value, e = .returned v0_ ∧ Kd.R (Kd.int .u8) 5 w' w.heap.size (fun _ => True) v0_ [] ∧ Below w.heap.size w w' := by
 rcases Nat.eq_zero_or_pos n with h0 | h0
 · subst h0; go_enter Tryz.func77, Tryz.ntmps77
   go_wp2
   go_ret
   exact ⟨_, rfl, Kd.R_nil _ _ _ _ _, Below.refl _ _⟩
 · have hb5 : Tryz.t5.bytes = 1 := by kernel_rfl
   have hnx := nextslicecap_small n h0; have hw : wrap64 ((n : Int) - 0) = n := by unfold wrap64; omega
   have hd0 : decide ((n : Int) < 0) = false := by simp
   have hd1 : decide (0 < (n : Int)) = true := by simp; omega
   go_enter Tryz.func77, Tryz.ntmps77
   go_wp2
   go_ret
   have hge : n ≤ (Question.appendCap n 0 5).cut (w.tape w.drawn (.appendCap n 0 5)) := by simp [Question.cut]
   refine ⟨_, rfl, ⟨fun _ _ => trivial, [], ⟨by simp, .inr ⟨w.heap.size, (Question.appendCap n 0 5).cut (w.tape w.drawn (.appendCap n 0 5)), Builtin.zeroCells #[Value.int IntKind.u8 0] n ++ Builtin.zeroCells #[Value.int IntKind.u8 0] ((Question.appendCap n 0 5).cut (w.tape w.drawn (.appendCap n 0 5)) - n),
     rfl, Nat.le_refl _, ?_, Nat.zero_le _, grownCap_le_maxLen w n 0 5 (by simp only [maxLen]; omega), ?_, by simp⟩⟩, Reps.none _ _⟩, ?_⟩
   · exact heap_alloc_new w _
   · simp only [Array.size_append, size_zeroCells]; have : (#[Value.int IntKind.u8 0] : Array Value).size = 1 := rfl; have h1 : (Kd.int IntKind.u8).sz = 1 := rfl; rw [this, h1]; omega
   · exact below_drew (below_alloc (Below.refl _ _) _)
end Go.Proofs.YthjedmfjmllboaaGreatDoor.PB
namespace Go.Proofs.YthjedmfjmllboaaGreatDoor.PB
open Go.RowKit Go.Proofs.YthjedmfjmllboaaGreatDoorW.PrintWords Go.Proofs.YthjedmfjmllboaaGreatDoorW.PrintLast
attribute [local go_sem high] eqA36
def slices_Concat_byte_byte.l0 : Nat → List Int → List (List Int) → Int → Int → Option (List Int)
  | 0, _, _, _, _ => none
  | k + 1, x2, x5, x6, x7 => if x7 < x6 then (if 0 ≤ x7 then (if x7 < (x5.length : Int) then (if x2.length + (rd_L2 x5 x7).length < 140737488355328 then (slices_Concat_byte_byte.l0 k (x2 ++ (rd_L2 x5 x7)) x5 x6 (wrap64 (x7 + 1))) else (none)) else (none)) else (none)) else (some x2)
def slices_Concat_byte_byte.f (k : Nat) (l0 : List (List Int)) : Option (List Int) := slices_Concat_byte_byte.l0 k ([] : List Int) l0 (l0.length : Int) 0
theorem slices_Concat_byte_byte.mono_l : ∀ k, (∀ y0 y1 y2 y3, LeO (slices_Concat_byte_byte.l0 k y0 y1 y2 y3) (slices_Concat_byte_byte.l0 (k + 1) y0 y1 y2 y3))
  | 0 => fun _ _ _ _ r h => by simp [slices_Concat_byte_byte.l0] at h
  | k + 1 => by
    have ih0 := slices_Concat_byte_byte.mono_l k
    · intro y0 y1 y2 y3
      unfold slices_Concat_byte_byte.l0
      repeat' first
      | (with_reducible exact ih0 _ _ _ _)
      | (with_reducible exact LeO.refl _)
      | (with_reducible exact LeO.none _)
      | (with_reducible refine LeO.ite ?_ ?_)
      | (with_reducible refine LeO.bind ?_ (fun _ => ?_))
      | exact ih0 _ _ _ _
      | exact LeO.none _
      | refine LeO.ite ?_ ?_
      | refine LeO.bind ?_ (fun _ => ?_)
theorem slices_Concat_byte_byte.mono : ∀ a0 k, LeO (slices_Concat_byte_byte.f k a0) (slices_Concat_byte_byte.f (k + 1) a0) := by
 intro a0 k; have ih0 := slices_Concat_byte_byte.mono_l k; unfold slices_Concat_byte_byte.f
 repeat' first
   | (with_reducible exact ih0 _ _ _ _)
   | (with_reducible exact LeO.refl _)
   | (with_reducible exact LeO.none _)
   | (with_reducible refine LeO.ite ?_ ?_)
   | (with_reducible refine LeO.bind ?_ (fun _ => ?_))
   | exact ih0 _ _ _ _
   | exact LeO.none _
   | refine LeO.ite ?_ ?_
   | refine LeO.bind ?_ (fun _ => ?_)
def lens : List (List Int) → Nat
  | [] => 0
  | a :: r => a.length + lens r
theorem lens_append : ∀ (a b : List (List Int)), lens (a ++ b) = lens a + lens b
  | [], b => by simp [lens]
  | x :: a, b => by simp only [List.cons_append, lens, lens_append a b]; omega
theorem rdL2_at {l : List (List Int)} {i : Int} (h1 : i.toNat < l.length) : rd_L2 l i = l[i.toNat] := by
 simp [rd_L2, List.getD_eq_getElem?_getD, List.getElem?_eq_getElem h1]
theorem lens_drop {l : List (List Int)} {i : Int} (h0 : 0 ≤ i) (h1 : i < (l.length : Int)) : lens (l.drop i.toNat) = (rd_L2 l i).length + lens (l.drop (i + 1).toNat) := by
 have hi : i.toNat < l.length := by omega
 rw [List.drop_eq_getElem_cons hi, rdL2_at hi]; have h2 : (i + 1).toNat = i.toNat + 1 := by omega
 rw [h2]; rfl
theorem lens_take {l : List (List Int)} {i : Int} (h0 : 0 ≤ i) (h1 : i < (l.length : Int)) : lens (l.take (i + 1).toNat) = lens (l.take i.toNat) + (rd_L2 l i).length := by
 have hi : i.toNat < l.length := by omega
 have h2 : (i + 1).toNat = i.toNat + 1 := by omega
 rw [h2, List.take_add_one, lens_append, rdL2_at hi, List.getElem?_eq_getElem hi]; rfl
theorem lens_all (l : List (List Int)) (i : Int) : lens (l.take i.toNat) + lens (l.drop i.toNat) = lens l := by
 rw [← lens_append, List.take_append_drop]
theorem wadd (s n : Nat) (h : s + n ≤ 140737488355328) : wrap64 ((s : Int) + (n : Int)) = ((s + n : Nat) : Int) := by unfold wrap64; omega
theorem wsucc (i : Nat) (h : i ≤ 1152921504606846976) : wrap64 ((i : Int) + 1) = ((i + 1 : Nat) : Int) := by unfold wrap64; omega
theorem concat_len (l : List (List Int)) (hl : l.length ≤ 1152921504606846976) : ∀ (k : Nat) (x r : List Int) (i : Int), 0 ≤ i → i ≤ l.length → slices_Concat_byte_byte.l0 k x l (l.length : Int) i = some r → x.length < 140737488355328 → r.length = x.length + lens (l.drop i.toNat) ∧ r.length < 140737488355328 := by
 intro k; induction k with
 | zero => intro x r i _ _ h; simp [slices_Concat_byte_byte.l0] at h
 | succ k ih =>
  intro x r i h0 h1 h hx; simp only [slices_Concat_byte_byte.l0] at h; split at h
  · rename_i hlt; split at h
    · rename_i hs; have hw : wrap64 (i + 1) = i + 1 := by unfold wrap64; omega
      rw [hw] at h; obtain ⟨g1, g2⟩ := ih _ _ (i + 1) (by omega) (by omega) h (by rw [List.length_append]; exact hs); rw [List.length_append] at g1; rw [lens_drop h0 hlt]; exact ⟨by omega, g2⟩
    · cases h
  · rename_i hge; cases h
    have : l.drop i.toNat = [] := List.drop_eq_nil_of_le (by omega); rw [this]; exact ⟨by simp [lens], hx⟩
set_option maxHeartbeats 8000000 in
set_option maxRecDepth 100000 in
theorem slices_Concat_byte_byte.calls (k : Nat) (A0 : Option Addr) (c0 : Nat) (l0 : List (List Int)) (r : List Int) (w : World) (hr0 : Kd.C (Kd.slice 5 (Kd.int .u8)) w A0 l0.length l0) (hc0 : l0.length ≤ c0) (hln : l0.length ≤ 1152921504606846976) (h : slices_Concat_byte_byte.f k l0 = some r) :
    Calls Tryz.prog 45 #[.slice A0 l0.length c0] w fun e w' => ∃ v0_ : Value, e = .returned (v0_) ∧ Kd.R (Kd.int .u8) 5 w' w.heap.size (fun _ => True) v0_ r ∧ Below w.heap.size w w' := by
 have HR0 := Aside0.mk hr0; have HC0 := Aside0.mk hc0; clear hr0 hc0; have HB := Aside0.mk (Below.refl w.heap.size w); have H := h; unfold slices_Concat_byte_byte.f at H; clear h; have H' := Aside0.mk H; clear H; have HLn := Aside0.mk hln; clear hln; have HT := Aside0.mk (concat_len l0 HLn.out k [] r 0 (by omega) (by omega) H'.out (by simp)); go_enter Tryz.func45, Tryz.ntmps45
 go_wp2
 go_loopg [3, 11] l0.length (fun kq v3 v11 w' => ∃ (s1 : Nat) (i1 : Nat), v3 = .int .i64 (s1 : Int) ∧ v11 = .int .i64 (i1 : Int) ∧ Aside0 (i1 + kq = l0.length) ∧ Aside0 (s1 = lens (l0.take i1)) ∧ Aside0 (Below w.heap.size w w'))
 case atStart => exact ⟨0, 0, rfl, rfl, ⟨by simp⟩, ⟨by simp [lens]⟩, ⟨Below.refl _ _⟩⟩
 case round =>
  obtain ⟨s1, i1, rfl, rfl, HI, HS, HB⟩ := hrel; have hal := lens_all l0 (i1 : Int); have ht0 := HT.out.1; have ht1 := HT.out.2; rw [show ((0 : Int)).toNat = 0 from rfl, List.drop_zero] at ht0; rw [Int.toNat_natCast] at hal; cases gk with
  | zero =>
   have hi := HI.out; have c2b0 : decide ((i1 : Int) < (l0.length : Int)) = false := by simp; omega
   obtain rfl : s1 = lens l0 := by rw [HS.out, show i1 = l0.length by omega, List.take_length]
   have hle : lens l0 ≤ 140737488355328 := by simp at ht0; omega
   go_wp2_with (go_at_call 77; refine (grow_calls (lens l0) hle _).mono ?_; rintro e W1 ⟨v0, rfl, ho, hb⟩; have n0_ := Aside0.mk (Kd.R_lower ho (below_size HB.out)); have n1_ := Aside0.mk (below_step HB.out hb); clear HB; have HO_6 := n0_; have HB := n1_; clear n0_ n1_; clear ho hb)
   go_loopg [6, 27] k (fun kq v6 v27 w' => ∃ (x6_1 : List Int) (x27_1 : Int), v27 = .int .i64 x27_1 ∧ Aside0 (slices_Concat_byte_byte.l0 kq x6_1 l0 (l0.length : Int) x27_1 = some r) ∧ Aside0 (kq ≤ k) ∧ Aside0 (Kd.R (Kd.int .u8) 5 w' w.heap.size (fun _ => True) v6 x6_1) ∧ Aside0 (Below w.heap.size w w'))
   case atStart => exact ⟨(([] : List Int)), (0), (by first | rfl | (simp; done) | (simp [*]; done)), H', ⟨Nat.le_refl _⟩, ⟨HO_6.out⟩, ⟨bz⟩⟩
   case round =>
    clear H'; obtain ⟨x6_1, x27_1, rfl, HA, HK1, HO_6, HB⟩ := hrel; cases gk with
    | zero => exact absurd HA.out (by simp [slices_Concat_byte_byte.l0])
    | succ k1 =>
     have H := HA.out; clear HA; simp only [slices_Concat_byte_byte.l0] at H; by_cases c2 : x27_1 < (l0.length : Int); rotate_left
     · rw [if_neg c2] at H; have c2b0 : decide (x27_1 < (l0.length : Int)) = false := decide_eq_false c2; clear c2; obtain rfl := Option.some.inj H; go_wp2
       go_ret
       exact ⟨_, xz, rz HO_6, bz⟩
     rw [if_pos c2] at H; have c2b0 : decide (x27_1 < (l0.length : Int)) = true := decide_eq_true c2; clear c2; by_cases c3 : 0 ≤ x27_1; rotate_left
     · rw [if_neg c3] at H; exact absurd H (by simp)
     rw [if_pos c3] at H; have c3b0 : decide (0 ≤ x27_1) = true := decide_eq_true c3; clear c3; by_cases c4 : x27_1 < (l0.length : Int); rotate_left
     · rw [if_neg c4] at H; exact absurd H (by simp)
     rw [if_pos c4] at H; have c4b0 : decide (x27_1 < (l0.length : Int)) = true := decide_eq_true c4; clear c4; by_cases c5 : x6_1.length + (rd_L2 l0 x27_1).length < 140737488355328; rotate_left
     · rw [if_neg c5] at H; exact absurd H (by simp)
     rw [if_pos c5] at H; have LMc5 := Aside0.mk c5; clear c5; obtain ⟨y113, hy113⟩ : ∃ y_ : List Int, y_ = (x6_1 ++ (rd_L2 l0 x27_1)) := ⟨_, rfl⟩
     replace H : (slices_Concat_byte_byte.l0 k1 y113 l0 (l0.length : Int) (wrap64 (x27_1 + 1))) = some r := wz hy113; have Ny113 := Aside0.mk hy113; clear hy113; have H' := Aside0.mk H; clear H; have p112 : 0 ≤ (x27_1 : Int) := of_decide_eq_true az; have q112 : x27_1 < (l0.length : Int) := of_decide_eq_true az; obtain ⟨ad112, A112_0, c112_0, e112, hx112_0, hl112_0, hi112_0⟩ := at_L2 HR0.out x27_1 p112 q112; cases e112
     replace hx112_0 := (HB.out.cell (World.block_lt_of_cell? w _ hx112_0)).trans hx112_0; have HR112_0 := Aside0.mk hi112_0; have HC112_0 := Aside0.mk hl112_0; clear hi112_0 hl112_0; replace p112 := eq_true p112; replace q112 := eq_true q112; go_wp2_with (first | ((with_reducible refine gate_builtin (b := .append) (xs := #[.tmp 31, .tmp 32]) rfl ?_); at_builtin; refine Kd.R_append_rows (Kd.int .u8) (w0 := w) w.heap.size rfl (.tmp 31) (.tmp 32) 23 5 (.int .u8 0) 1 rfl Tryz.underlying23 info5 rfl (by decide) (by omega) u6 x6_1 (rd_L2 l0 x27_1) _ _ _ (fun _ => True) (fun _ => False) rfl rfl ?aO ?aR (fun _ _ h => h) (fun _ h => h.elim) ?aF ?aB ?aS ?aL ?_; (case aR => exact cz (Kd.C_below HR112_0.out HB.out)); (case aB => exact bz); (case aF => exact (fun _ _ => trivial)); (case aO => exact (rz HO_6)); (case aS => exact (below_size bz)); (case aL => have := LMc5.out; omega); intro v114 w6 ho hb hg hat; rw [← Ny113.out] at ho; replace HB := Aside0.mk (hb); have HO115 := Aside0.mk (ho); clear HO_6; clear ho hb hg hat))
     go_roundg k1
     case measure => have := HK1.out; omega
     case rel => exact ⟨(y113), (wrap64 (x27_1 + 1)), (by first | rfl | (simp; done) | (simp [*]; done)), H', ⟨by have := HK1.out; omega⟩, ⟨rz HO115⟩, ⟨bz⟩⟩
  | succ k1 =>
   have hi := HI.out; have hlt : (i1 : Int) < (l0.length : Int) := by omega
   have c2b0 : decide ((i1 : Int) < (l0.length : Int)) = true := decide_eq_true hlt; have htk := lens_take (l := l0) (i := (i1 : Int)) (by omega) hlt; rw [Int.toNat_natCast, show ((i1 : Int) + 1).toNat = i1 + 1 by omega] at htk; have hal2 := lens_all l0 ((i1 + 1 : Nat) : Int); rw [Int.toNat_natCast] at hal2; simp at ht0; have hsm : s1 + (rd_L2 l0 (i1 : Int)).length ≤ 140737488355328 := by have := HS.out; omega
   have p112 : 0 ≤ (i1 : Int) := by omega
   obtain ⟨ad112, A112_0, c112_0, e112, hx112_0, hl112_0, hi112_0⟩ := at_L2 HR0.out (i1 : Int) p112 hlt; cases e112
   rw [Int.toNat_natCast] at hx112_0; replace hx112_0 := (HB.out.cell (World.block_lt_of_cell? w _ hx112_0)).trans hx112_0; have q112 := eq_true hlt; have hlb := HLn.out; have c5b0 : decide (((s1 + (rd_L2 l0 (i1 : Int)).length : Nat) : Int) < 0) = false := decide_eq_false (by omega); have c6b0 : decide ((s1 : Int) + ((rd_L2 l0 (i1 : Int)).length : Int) < 0) = false := decide_eq_false (by omega); have hib : i1 ≤ 1152921504606846976 := by omega
   have hw1 := wadd s1 (rd_L2 l0 (i1 : Int)).length hsm; have hw2 := wsucc i1 hib; have HTK := Aside0.mk htk; clear hal hal2 ht0 ht1 htk hlb hib hsm hi; go_wp2
   go_roundg k1
   case measure => clear hw1 hw2; have := HI.out; omega
   case rel => exact ⟨s1 + (rd_L2 l0 (i1 : Int)).length, i1 + 1, by first | rfl | (simp [hw1]; done) | (rw [hw1]), by first | rfl | (simp [hw2]; done), ⟨by clear hw1 hw2; have := HI.out; omega⟩, ⟨by rw [HTK.out, HS.out]⟩, ⟨bz⟩⟩
end Go.Proofs.YthjedmfjmllboaaGreatDoor.PB
namespace Go.Proofs.YthjedmfjmllboaaGreatDoor.PB
open Go.RowKit Go.Proofs.YthjedmfjmllboaaGreatDoorW.PrintWords Go.Proofs.YthjedmfjmllboaaGreatDoorW.PrintLast
def oddIdx : Nat → List (S59) → Int → Int → Option Int
  | 0, _, _, _ => none
  | k + 1, x, n, i => if i < n then (if 0 ≤ i then (if i < (x.length : Int) then ((log_isEntry.f ((rd_T59 x i).f0) ((rd_T59 x i).f1) ((rd_T59 x i).f2) ((rd_T59 x i).f3.f0) ((rd_T59 x i).f3.f1) ((rd_T59 x i).f3.f2) ((rd_T59 x i).f3.f3)).bind fun t => (if t = true then (oddIdx k x n (wrap64 (i + 1))) else (some i))) else (none)) else (none)) else (some (-1))
set_option maxHeartbeats 8000000 in
set_option maxRecDepth 100000 in
theorem slices_IndexFunc.calls (k : Nat) (A0 : Option Addr) (c0 : Nat) (l0 : List (S59)) (r : Int) (w : World) (hr0 : Kd.C k59 w A0 l0.length l0) (hc0 : l0.length ≤ c0) (h : oddIdx k l0 (l0.length : Int) 0 = some r) :
    Calls Tryz.prog 43 #[.slice A0 l0.length c0, .func (.func 21) #[] #[]] w fun e w' => e = .returned (.int .i64 r) ∧ Below w.heap.size w w' := by
 have hu37 := Tryz.underlying59; have HR0 := Aside0.mk hr0; have HC0 := Aside0.mk hc0; clear hr0 hc0; have HB := Aside0.mk (Below.refl w.heap.size w); have H' := Aside0.mk h; clear h; go_enter Tryz.func43, Tryz.ntmps43
 go_wp2
 go_loopg [8] k (fun kq v8 w' => ∃ (x8 : Int), v8 = .int .i64 x8 ∧ Aside0 (oddIdx kq l0 (l0.length : Int) x8 = some r) ∧ Aside0 (kq ≤ k) ∧ Aside0 (Below w.heap.size w w'))
 case atStart => exact ⟨(0), (by first | rfl | (simp; done) | (simp [*]; done)), H', ⟨Nat.le_refl _⟩, ⟨bz⟩⟩
 case round =>
  clear H'; obtain ⟨x8, rfl, HA, HK1, HB⟩ := hrel; cases gk with
  | zero => exact absurd HA.out (by simp [oddIdx])
  | succ k1 =>
   have H := HA.out; clear HA; simp only [oddIdx] at H; by_cases c2 : x8 < (l0.length : Int); rotate_left
   · rw [if_neg c2] at H; have c2b0 : decide (x8 < (l0.length : Int)) = false := decide_eq_false c2; clear c2; obtain rfl := Option.some.inj H; go_wp2
     go_ret
     exact ⟨by first | rfl | (simp [*]; done), bz⟩
   rw [if_pos c2] at H; have c2b0 : decide (x8 < (l0.length : Int)) = true := decide_eq_true c2; by_cases c3 : 0 ≤ x8; rotate_left
   · rw [if_neg c3] at H; exact absurd H (by simp)
   rw [if_pos c3] at H; have c3b0 : decide (0 ≤ x8) = true := decide_eq_true c3; clear c3; rw [if_pos c2] at H; clear c2; replace H := Option.bind_eq_some_iff.mp H; obtain ⟨t169, A50, H⟩ := H; have A5 := Aside0.mk A50; clear A50; by_cases c6 : t169 = true; rotate_left
   · replace c6 := Bool.eq_false_iff.mpr c6; subst c6; have H1 : (some x8) = some r := by rw [if_neg (show ¬ (false = true) by decide)] at H; exact H
     clear H; obtain rfl := Option.some.inj H1; have p167 : 0 ≤ (x8 : Int) := of_decide_eq_true az; have q167 : x8 < (l0.length : Int) := of_decide_eq_true az; obtain ⟨ad167, A167_2, c167_2, e167, hx167_0, hx167_1, hx167_2, hx167_3, hx167_4, hx167_5, hx167_6, hl167_2, hi167_2⟩ := at_T59 HR0.out x8 p167 q167; cases e167
     replace hx167_0 := (HB.out.cell (World.block_lt_of_cell? w _ hx167_0)).trans hx167_0; replace hx167_1 := (HB.out.cell (World.block_lt_of_cell? w _ hx167_1)).trans hx167_1; replace hx167_2 := (HB.out.cell (World.block_lt_of_cell? w _ hx167_2)).trans hx167_2; replace hx167_3 := (HB.out.cell (World.block_lt_of_cell? w _ hx167_3)).trans hx167_3; replace hx167_4 := (HB.out.cell (World.block_lt_of_cell? w _ hx167_4)).trans hx167_4; replace hx167_5 := (HB.out.cell (World.block_lt_of_cell? w _ hx167_5)).trans hx167_5; replace hx167_6 := (HB.out.cell (World.block_lt_of_cell? w _ hx167_6)).trans hx167_6; have HR167_2 := Aside0.mk hi167_2; have HC167_2 := Aside0.mk hl167_2; clear hi167_2 hl167_2; replace p167 := eq_true p167; replace q167 := eq_true q167; go_wp2_with (first | ((with_reducible refine gate_dst (N := 1) rfl ?_); refine box_event ?hg (N := 1) ?hd (cs := #[.int .u8 ((rd_T59 l0 x8).f0), .int .i64 ((rd_T59 l0 x8).f1), .slice A167_2 ((rd_T59 l0 x8).f2).length c167_2, .int .i64 ((rd_T59 l0 x8).f3.f0), .int .i64 ((rd_T59 l0 x8).f3.f1), .int .u8 ((rd_T59 l0 x8).f3.f2), .int .i64 ((rd_T59 l0 x8).f3.f3)]) (t := 59) ?hr ?_; (case hd => rfl); (case hg => rfl); (case hr => exact hz); intro gb hg w7 hbox hb; have n1_ := Aside0.mk (below_step bz hb); have BK := Aside0.mk hbox; clear HB; have HB := n1_; clear n1_; clear hb hbox hg; have hcz_0 : w7.cell? ⟨gb, 0, none⟩ = some (.int .u8 ((rd_T59 l0 x8).f0)) := (blk_cell BK.out 0).trans rfl; have hfz_0 := blk_frozen BK.out 0; have hcz_1 : w7.cell? ⟨gb, 1, none⟩ = some (.int .i64 ((rd_T59 l0 x8).f1)) := (blk_cell BK.out 1).trans rfl; have hfz_1 := blk_frozen BK.out 1; have hcz_2 : w7.cell? ⟨gb, 2, none⟩ = some (.slice A167_2 ((rd_T59 l0 x8).f2).length c167_2) := (blk_cell BK.out 2).trans rfl; have hfz_2 := blk_frozen BK.out 2; have hcz_3 : w7.cell? ⟨gb, 3, none⟩ = some (.int .i64 ((rd_T59 l0 x8).f3.f0)) := (blk_cell BK.out 3).trans rfl; have hfz_3 := blk_frozen BK.out 3; have hcz_4 : w7.cell? ⟨gb, 4, none⟩ = some (.int .i64 ((rd_T59 l0 x8).f3.f1)) := (blk_cell BK.out 4).trans rfl; have hfz_4 := blk_frozen BK.out 4; have hcz_5 : w7.cell? ⟨gb, 5, none⟩ = some (.int .u8 ((rd_T59 l0 x8).f3.f2)) := (blk_cell BK.out 5).trans rfl; have hfz_5 := blk_frozen BK.out 5; have hcz_6 : w7.cell? ⟨gb, 6, none⟩ = some (.int .i64 ((rd_T59 l0 x8).f3.f3)) := (blk_cell BK.out 6).trans rfl; have hfz_6 := blk_frozen BK.out 6) | ((with_reducible refine gate_callee (f := 22) rfl ?_); refine goesL_ (some 4) rfl rfl Tryz.func22 (by kernel_rfl) rfl #[.agg #[.int .u8 ((rd_T59 l0 x8).f0), .int .i64 ((rd_T59 l0 x8).f1), .slice A167_2 ((rd_T59 l0 x8).f2).length c167_2, .int .i64 ((rd_T59 l0 x8).f3.f0), .int .i64 ((rd_T59 l0 x8).f3.f1), .int .u8 ((rd_T59 l0 x8).f3.f2), .int .i64 ((rd_T59 l0 x8).f3.f3)]] rfl lz ?_; (with_reducible refine (log_isEntry.calls ((rd_T59 l0 x8).f0) ((rd_T59 l0 x8).f1) _ _ ((rd_T59 l0 x8).f2) ((rd_T59 l0 x8).f3.f0) ((rd_T59 l0 x8).f3.f1) ((rd_T59 l0 x8).f3.f2) ((rd_T59 l0 x8).f3.f3) false _ ?side1 ?side2 A5.out).mono ?_); (case side1 => exact Kd.C_below HR167_2.out bz); (case side2 => exact HC167_2.out); rintro e w9 ⟨rfl, hb⟩; refine ⟨_, rfl, ?_⟩; have n2_ := Aside0.mk (below_step bz hb); clear HB; have HB := n2_; clear n2_; clear hb) | go_in)
     go_ret
     exact ⟨by first | rfl | (simp [*]; done), bz⟩
   subst c6; have H1 : (oddIdx k1 l0 (l0.length : Int) (wrap64 (x8 + 1))) = some r := by rw [if_pos rfl] at H; exact H
   clear H; have H' := Aside0.mk H1; clear H1; have p167 : 0 ≤ (x8 : Int) := of_decide_eq_true az; have q167 : x8 < (l0.length : Int) := of_decide_eq_true az; obtain ⟨ad167, A167_2, c167_2, e167, hx167_0, hx167_1, hx167_2, hx167_3, hx167_4, hx167_5, hx167_6, hl167_2, hi167_2⟩ := at_T59 HR0.out x8 p167 q167; cases e167
   replace hx167_0 := (HB.out.cell (World.block_lt_of_cell? w _ hx167_0)).trans hx167_0; replace hx167_1 := (HB.out.cell (World.block_lt_of_cell? w _ hx167_1)).trans hx167_1; replace hx167_2 := (HB.out.cell (World.block_lt_of_cell? w _ hx167_2)).trans hx167_2; replace hx167_3 := (HB.out.cell (World.block_lt_of_cell? w _ hx167_3)).trans hx167_3; replace hx167_4 := (HB.out.cell (World.block_lt_of_cell? w _ hx167_4)).trans hx167_4; replace hx167_5 := (HB.out.cell (World.block_lt_of_cell? w _ hx167_5)).trans hx167_5; replace hx167_6 := (HB.out.cell (World.block_lt_of_cell? w _ hx167_6)).trans hx167_6; have HR167_2 := Aside0.mk hi167_2; have HC167_2 := Aside0.mk hl167_2; clear hi167_2 hl167_2; replace p167 := eq_true p167; replace q167 := eq_true q167; go_wp2_with (first | ((with_reducible refine gate_dst (N := 1) rfl ?_); refine box_event ?hg (N := 1) ?hd (cs := #[.int .u8 ((rd_T59 l0 x8).f0), .int .i64 ((rd_T59 l0 x8).f1), .slice A167_2 ((rd_T59 l0 x8).f2).length c167_2, .int .i64 ((rd_T59 l0 x8).f3.f0), .int .i64 ((rd_T59 l0 x8).f3.f1), .int .u8 ((rd_T59 l0 x8).f3.f2), .int .i64 ((rd_T59 l0 x8).f3.f3)]) (t := 59) ?hr ?_; (case hd => rfl); (case hg => rfl); (case hr => exact hz); intro gb hg w7 hbox hb; have n1_ := Aside0.mk (below_step bz hb); have BK := Aside0.mk hbox; clear HB; have HB := n1_; clear n1_; clear hb hbox hg; have hcz_0 : w7.cell? ⟨gb, 0, none⟩ = some (.int .u8 ((rd_T59 l0 x8).f0)) := (blk_cell BK.out 0).trans rfl; have hfz_0 := blk_frozen BK.out 0; have hcz_1 : w7.cell? ⟨gb, 1, none⟩ = some (.int .i64 ((rd_T59 l0 x8).f1)) := (blk_cell BK.out 1).trans rfl; have hfz_1 := blk_frozen BK.out 1; have hcz_2 : w7.cell? ⟨gb, 2, none⟩ = some (.slice A167_2 ((rd_T59 l0 x8).f2).length c167_2) := (blk_cell BK.out 2).trans rfl; have hfz_2 := blk_frozen BK.out 2; have hcz_3 : w7.cell? ⟨gb, 3, none⟩ = some (.int .i64 ((rd_T59 l0 x8).f3.f0)) := (blk_cell BK.out 3).trans rfl; have hfz_3 := blk_frozen BK.out 3; have hcz_4 : w7.cell? ⟨gb, 4, none⟩ = some (.int .i64 ((rd_T59 l0 x8).f3.f1)) := (blk_cell BK.out 4).trans rfl; have hfz_4 := blk_frozen BK.out 4; have hcz_5 : w7.cell? ⟨gb, 5, none⟩ = some (.int .u8 ((rd_T59 l0 x8).f3.f2)) := (blk_cell BK.out 5).trans rfl; have hfz_5 := blk_frozen BK.out 5; have hcz_6 : w7.cell? ⟨gb, 6, none⟩ = some (.int .i64 ((rd_T59 l0 x8).f3.f3)) := (blk_cell BK.out 6).trans rfl; have hfz_6 := blk_frozen BK.out 6) | ((with_reducible refine gate_callee (f := 22) rfl ?_); refine goesL_ (some 4) rfl rfl Tryz.func22 (by kernel_rfl) rfl #[.agg #[.int .u8 ((rd_T59 l0 x8).f0), .int .i64 ((rd_T59 l0 x8).f1), .slice A167_2 ((rd_T59 l0 x8).f2).length c167_2, .int .i64 ((rd_T59 l0 x8).f3.f0), .int .i64 ((rd_T59 l0 x8).f3.f1), .int .u8 ((rd_T59 l0 x8).f3.f2), .int .i64 ((rd_T59 l0 x8).f3.f3)]] rfl lz ?_; (with_reducible refine (log_isEntry.calls ((rd_T59 l0 x8).f0) ((rd_T59 l0 x8).f1) _ _ ((rd_T59 l0 x8).f2) ((rd_T59 l0 x8).f3.f0) ((rd_T59 l0 x8).f3.f1) ((rd_T59 l0 x8).f3.f2) ((rd_T59 l0 x8).f3.f3) true _ ?side1 ?side2 A5.out).mono ?_); (case side1 => exact Kd.C_below HR167_2.out bz); (case side2 => exact HC167_2.out); rintro e w9 ⟨rfl, hb⟩; refine ⟨_, rfl, ?_⟩; have n2_ := Aside0.mk (below_step bz hb); clear HB; have HB := n2_; clear n2_; clear hb) | go_in)
   go_roundg k1
   case measure => have := HK1.out; omega
   case rel => exact ⟨(wrap64 (x8 + 1)), (by first | rfl | (simp; done) | (simp [*]; done)), H', ⟨by have := HK1.out; omega⟩, ⟨bz⟩⟩
set_option maxHeartbeats 8000000 in
set_option maxRecDepth 100000 in
theorem slices_ContainsFunc.calls (k : Nat) (A0 : Option Addr) (c0 : Nat) (l0 : List (S59)) (r : Int) (w : World) (hr0 : Kd.C k59 w A0 l0.length l0) (hc0 : l0.length ≤ c0) (h : oddIdx k l0 (l0.length : Int) 0 = some r) :
    Calls Tryz.prog 23 #[.slice A0 l0.length c0, .func (.func 21) #[] #[]] w fun e w' => e = .returned (.bool (decide (0 ≤ r))) ∧ Below w.heap.size w w' := by
 have HR0 := Aside0.mk hr0; have HC0 := Aside0.mk hc0; clear hr0 hc0; have HB := Aside0.mk (Below.refl w.heap.size w); have H' := Aside0.mk h; clear h; go_enter Tryz.func23, Tryz.ntmps23
 go_wp2_with (first | ((with_reducible refine gate_callee (f := 43) rfl ?_); refine goesL_ (some 7) rfl rfl Tryz.func43 (by kernel_rfl) rfl #[.slice A0 l0.length c0, .func (.func 21) #[] #[]] rfl (by (try simp only [List.map_toArray, List.map_cons, List.map_nil]); first | done | rfl) ?_; (with_reducible refine (slices_IndexFunc.calls k _ _ l0 r _ ?side1 ?side2 H'.out).mono ?_); (case side1 => exact Kd.C_below HR0.out bz); (case side2 => exact HC0.out); rintro e w9 ⟨rfl, hb⟩; refine ⟨_, rfl, ?_⟩; have n2_ := Aside0.mk (below_step bz hb); clear HB; have HB := n2_; clear n2_; clear hb))
 go_ret
 exact ⟨by first | rfl | (simp [*]; done), bz⟩
end Go.Proofs.YthjedmfjmllboaaGreatDoor.PB
