/- The call of TokenNames, in any world whose table of spaces is laid, returns true and changes nothing that was there. Conditions: the table of spaces reads as the program lays it. -/
import Derived.Test.YtiimhfmdhofffaaGreatDoorRT0
import Derived.Test.YtiimhfmdhofffaaGreatDoorRT1
import Derived.Test.YtiimhfmdhofffaaGreatDoorRT2
import Derived.Test.YtiimhfmdhofffaaGreatDoorRT3
import Derived.Test.YtiimhfmdhofffaaGreatDoorRT4
import Derived.Test.YtiimhfmdhofffaaGreatDoorRT5
import Derived.Test.YtiimhfmdhofffaaGreatDoorRT6
import Derived.Test.YtiimhfmdhofffaaGreatDoorRT7
import Derived.Test.YtiimhfmdhofffaaGreatDoorRT8
import Derived.Test.YtiimhfmdhofffaaGreatDoorRT9
import Derived.Test.YtiimhfmdhofffaaGreatDoorRows
import Derived.ProofKit
import Derived.LaidMore
import Derived.OpenShut
namespace Go.Proofs.YtiimhfmdhofffaaGreatDoor
open Go Go.Ev
theorem e0_ok : EntryOk E e0 := entryOk (ms := []) trivial w0 r0
theorem e1_ok : EntryOk E e1 := entryOk (ms := [e0]) ⟨e0_ok, trivial⟩ w1 r1
theorem e2_ok : EntryOk E e2 := entryOk (ms := [e1]) ⟨e1_ok, trivial⟩ w2 r2
theorem e3_ok : EntryOk E e3 := entryOk (ms := [e2]) ⟨e2_ok, trivial⟩ w3 r3
theorem e4_ok : EntryOk E e4 := entryOk (ms := []) trivial w4 r4
theorem e5_ok : EntryOk E e5 := entryOk (ms := [e0]) ⟨e0_ok, trivial⟩ w5 r5
theorem e6_ok : EntryOk E e6 := entryOk (ms := [e5]) ⟨e5_ok, trivial⟩ w6 r6
theorem e7_ok : EntryOk E e7 := entryOk (ms := [e0]) ⟨e0_ok, trivial⟩ w7 r7
theorem e8_ok : EntryOk E e8 := entryOk (ms := [e7]) ⟨e7_ok, trivial⟩ w8 r8
theorem e9_ok : EntryOk E e9 := entryOk (ms := [e0]) ⟨e0_ok, trivial⟩ w9 r9
theorem e10_ok : EntryOk E e10 := entryOk (ms := [e9]) ⟨e9_ok, trivial⟩ w10 r10
theorem e11_ok : EntryOk E e11 := entryOk (ms := [e0]) ⟨e0_ok, trivial⟩ w11 r11
theorem e12_ok : EntryOk E e12 := entryOk (ms := [e11]) ⟨e11_ok, trivial⟩ w12 r12
theorem e13_ok : EntryOk E e13 := entryOk (ms := [e0]) ⟨e0_ok, trivial⟩ w13 r13
theorem e14_ok : EntryOk E e14 := entryOk (ms := [e13]) ⟨e13_ok, trivial⟩ w14 r14
theorem e15_ok : EntryOk E e15 := entryOk (ms := [e0]) ⟨e0_ok, trivial⟩ w15 r15
theorem e16_ok : EntryOk E e16 := entryOk (ms := [e15]) ⟨e15_ok, trivial⟩ w16 r16
theorem e17_ok : EntryOk E e17 := entryOk (ms := [e0]) ⟨e0_ok, trivial⟩ w17 r17
theorem e18_ok : EntryOk E e18 := entryOk (ms := [e17]) ⟨e17_ok, trivial⟩ w18 r18
theorem e19_ok : EntryOk E e19 := entryOk (ms := [e18, e16, e14, e12, e10, e8, e6, e4]) ⟨e18_ok, e16_ok, e14_ok, e12_ok, e10_ok, e8_ok, e6_ok, e4_ok, trivial⟩ w19 r19
theorem e20_ok : EntryOk E e20 := entryOk (ms := [e19]) ⟨e19_ok, trivial⟩ w20 r20
theorem e21_ok : EntryOk E e21 := entryOk (ms := [e19]) ⟨e19_ok, trivial⟩ w21 r21
theorem e22_ok : EntryOk E e22 := entryOk (ms := [e19]) ⟨e19_ok, trivial⟩ w22 r22
theorem e23_ok : EntryOk E e23 := entryOk (ms := [e19]) ⟨e19_ok, trivial⟩ w23 r23
theorem e24_ok : EntryOk E e24 := entryOk (ms := [e19]) ⟨e19_ok, trivial⟩ w24 r24
theorem e25_ok : EntryOk E e25 := entryOk (ms := [e19]) ⟨e19_ok, trivial⟩ w25 r25
theorem e26_ok : EntryOk E e26 := entryOk (ms := [e25, e24, e23, e22, e21]) ⟨e25_ok, e24_ok, e23_ok, e22_ok, e21_ok, trivial⟩ w26 r26
theorem e27_ok : EntryOk E e27 := entryOk (ms := [e5]) ⟨e5_ok, trivial⟩ w27 r27
theorem e28_ok : EntryOk E e28 := entryOk (ms := [e7]) ⟨e7_ok, trivial⟩ w28 r28
theorem e29_ok : EntryOk E e29 := entryOk (ms := [e13]) ⟨e13_ok, trivial⟩ w29 r29
theorem e30_ok : EntryOk E e30 := entryOk (ms := [e29, e28, e27]) ⟨e29_ok, e28_ok, e27_ok, trivial⟩ w30 r30
theorem e31_ok : EntryOk E e31 := entryOk (ms := [e30]) ⟨e30_ok, trivial⟩ w31 r31
theorem e32_ok : EntryOk E e32 := entryOk (ms := []) trivial w32 r32
theorem e33_ok : EntryOk E e33 := entryOk (ms := [e32, e31, e26, e20]) ⟨e32_ok, e31_ok, e26_ok, e20_ok, trivial⟩ w33 r33
theorem e34_ok : EntryOk E e34 := entryOk (ms := [e33]) ⟨e33_ok, trivial⟩ w34 r34
theorem e35_ok : EntryOk E e35 := entryOk (ms := [e33]) ⟨e33_ok, trivial⟩ w35 r35
theorem e36_ok : EntryOk E e36 := entryOk (ms := [e33]) ⟨e33_ok, trivial⟩ w36 r36
theorem e37_ok : EntryOk E e37 := entryOk (ms := [e2]) ⟨e2_ok, trivial⟩ w37 r37
theorem e38_ok : EntryOk E e38 := entryOk (ms := [e32, e31, e26, e20]) ⟨e32_ok, e31_ok, e26_ok, e20_ok, trivial⟩ w38 r38
theorem e39_ok : EntryOk E e39 := entryOk (ms := [e38]) ⟨e38_ok, trivial⟩ w39 r39
theorem e40_ok : EntryOk E e40 := entryOk (ms := [e32, e30]) ⟨e32_ok, e30_ok, trivial⟩ w40 r40
theorem e41_ok : EntryOk E e41 := entryOk (ms := [e32, e30]) ⟨e32_ok, e30_ok, trivial⟩ w41 r41
theorem e42_ok : EntryOk E e42 := entryOk (ms := [e32, e30]) ⟨e32_ok, e30_ok, trivial⟩ w42 r42
theorem e43_ok : EntryOk E e43 := entryOk (ms := [e33]) ⟨e33_ok, trivial⟩ w43 r43
theorem e44_ok : EntryOk E e44 := entryOk (ms := [e33]) ⟨e33_ok, trivial⟩ w44 r44
theorem e45_ok : EntryOk E e45 := entryOk (ms := [e38]) ⟨e38_ok, trivial⟩ w45 r45
theorem e46_ok : EntryOk E e46 := entryOk (ms := [e45, e44, e37, e35, e3]) ⟨e45_ok, e44_ok, e37_ok, e35_ok, e3_ok, trivial⟩ w46 r46
theorem e47_ok : EntryOk E e47 := entryOk (ms := [e46, e43, e42, e41, e40, e39, e37, e36, e35, e34, e26, e3]) ⟨e46_ok, e43_ok, e42_ok, e41_ok, e40_ok, e39_ok, e37_ok, e36_ok, e35_ok, e34_ok, e26_ok, e3_ok, trivial⟩ w47 r47
/-- a table of bytes, as data and as the evaluator's cells -/
def tabOk : List (DataW Unit) → List KV → Bool
  | .lit (.int k a) :: r, .int k' b :: s => decide (k = k') && (decide (a = b) && tabOk r s)
  | [], [] => true
  | _, _ => false

theorem tabOk_get : ∀ {l : List (DataW Unit)} {s : List KV}, tabOk l s = true → ∀ (i : Nat) (q : KV), s[i]? = some q → ∃ k b, q = KV.int k b ∧ l[i]? = some (DataW.lit (Lit.int k b))
  | [], [], _, i, q, h => by simp at h
  | [], _ :: _, h, _, _, _ => by simp [tabOk] at h
  | a :: r, [], h, i, q, hq => by simp at hq
  | a :: r, b :: s, h, i, q, hq => by
    unfold tabOk at h
    split at h
    · rename_i l1 s1 k x r1 k' y s2 e1 e2
      cases e1; cases e2
      simp only [Bool.and_eq_true, decide_eq_true_eq] at h
      obtain ⟨rfl, rfl, h3⟩ := h
      cases i with
      | zero => simp only [List.getElem?_cons_zero, Option.some.injEq] at hq; subst hq; exact ⟨k, x, rfl, by simp⟩
      | succ i => exact tabOk_get h3 i q (by simpa using hq)
    · rename_i e1 _; cases e1
    · cases h

def ascK : List KV := match tb.2 with | .row _ l => l | .map _ => []
def ascD : List (DataW Unit) := match (Rows.laid_strings_asciiSpace : DataW Unit) with | .agg l => l | _ => []

theorem ascOk : tabOk ascD ascK = true := by kernel_rfl

theorem gAsc : Tryz.prog.globalNamed "strings.asciiSpace" = some 0 := by kernel_rfl
theorem tAsc : (Tryz.prog.globals[0]?).map (·.type) = some 600 := by kernel_rfl
theorem uAsc : Tryz.prog.underlying 600 = some (.array 256 5) := by kernel_rfl
theorem uByte : Tryz.prog.underlying 5 = some (.int .u8) := by kernel_rfl
theorem cByte : Tryz.prog.cellsOf 5 = 1 := by kernel_rfl
theorem cAsc : Tryz.prog.cellsOf 600 = 256 := by kernel_rfl

/-- what a laid table of bytes gives -/
theorem laid_cells {W : World} {cs : Array Value} {f : Nat} {p : List MemPlace} {e : TypeId} {n t : Nat} {l : List (DataW Unit)} (h1 : Tryz.prog.underlying t = some (.array n e)) (h2 : Tryz.prog.underlying e = some (.int .u8)) (h3 : Tryz.prog.cellsOf e = 1)
    (hd : DataW.trod (fun _ => ()) Tryz.prog W 0 (fun _ => true) false f t cs.toList = some (.agg l, p)) : ∀ (i : Nat) (k : IntKind) (b : Int), l[i]? = some (DataW.lit (Lit.int k b)) → cs[i]? = some (Value.int k b) := by
  intro i k b hi
  obtain ⟨xs, m1, rfl, hx, hlen, hn, hel⟩ := DataW.trod_array h1 hd
  simp only [Prod.mk.injEq, DataW.agg.injEq] at hx
  obtain ⟨hx, _⟩ := hx
  rw [hx, List.getElem?_map] at hi
  cases hxi : xs[i]? with
  | none => rw [hxi] at hi; cases hi
  | some x =>
    rw [hxi] at hi
    simp only [Option.map_some, Option.some.injEq] at hi
    have hlt : i < n := by
      have := (List.getElem?_eq_some_iff.1 hxi).1
      omega
    have h4 := hel i hlt
    rw [hxi] at h4
    obtain ⟨q, g1, g2, _⟩ := DataW.trod_int h2 h4
    rw [g2] at hi
    simp only [DataW.lit.injEq, Lit.int.injEq] at hi
    obtain ⟨rfl, rfl⟩ := hi
    rw [h3, Nat.mul_one] at g1
    have : (cs.toList.drop i)[0]? = some (.int .u8 q) := by
      have := congrArg (fun l => l[0]?) g1
      simpa [List.getElem?_take] using this
    simpa [List.getElem?_drop] using this

/-- the evaluator's start -/
theorem start {W : World} {cs : Array Value} {el : TypeId} {fz : Nat × Nat} (hg : W.heap[0]? = some (.cells cs el fz)) (hsz : 256 ≤ cs.size) (hc : ∀ (i : Nat) (k : IntKind) (b : Int), ascD[i]? = some (DataW.lit (Lit.int k b)) → cs[i]? = some (Value.int k b)) :
    Rel W (fun c => c < W.heap.size) (fun g => if g < 200 then some (g, if g = 0 then cs.size else 0) else none) (heapOf [tb]) 200 W where
  img b o c N hb hr := by
    obtain ⟨lo, hm, rfl⟩ := heapOf_mem hb
    have hm : (b, lo) = tb := by simpa using hm
    have hb0 : b = 0 := congrArg Prod.fst hm
    have hlo : lo = .row true ascK := congrArg Prod.snd hm
    subst hb0
    simp only [show (0 : Nat) < 200 by decide, if_true, Option.some.injEq, Prod.mk.injEq] at hr
    obtain ⟨rfl, rfl⟩ := hr
    refine ⟨_, hg, ?_, fun hw => ?_⟩
    · rw [hlo]
      refine ⟨cs, el, fz, rfl, ?_, rfl, (fun e => by cases e), fun i k hk => ?_⟩
      · have : nlen ascK = 256 := by kernel_rfl
        rw [this]; exact hsz
      · rw [cellsOf_get, if_pos (Nat.zero_le _)] at hk
        obtain ⟨kd, x, rfl, h2⟩ := tabOk_get ascOk i k (by simpa using hk)
        exact ⟨rfl, _, hc i kd x h2, by simp only [RelV]⟩
    · rw [hlo] at hw; simp [toObj, KObj.writable] at hw
  low b o hb := by
    obtain ⟨lo, hm, _⟩ := heapOf_mem hb
    have hm : (b, lo) = tb := by simpa using hm
    have hb0 : b = 0 := congrArg Prod.fst hm
    omega
  fresh b hb := by rw [if_neg (by omega)]
  inj b b' o o' c N N' h1 h2 h3 h4 := by
    split at h3
    · split at h4
      · simp only [Option.some.injEq, Prod.mk.injEq] at h3 h4; omega
      · cases h4
    · cases h3
  kept c hk := ⟨hk, rfl⟩
  grown := Nat.le_refl _
  os := rfl
  output := rfl
  glob g hg := ⟨_, if_pos hg⟩

/-- the law's call: true, and what was there is as it was -/
theorem law_calls {W : World} {cs : Array Value} {el : TypeId} {fz : Nat × Nat} (hg : W.heap[0]? = some (.cells cs el fz)) (hsz : 256 ≤ cs.size) (hc : ∀ (i : Nat) (k : IntKind) (b : Int), ascD[i]? = some (DataW.lit (Lit.int k b)) → cs[i]? = some (Value.int k b)) :
    Calls Tryz.prog 3 #[] W fun e W' => e = .returned (.bool true) ∧ W'.os = W.os ∧ W'.output = W.output ∧ ∀ c, c < W.heap.size → W'.heap[c]? = W.heap[c]? := by
  intro fs
  obtain ⟨_, _, h⟩ := e47_ok
  obtain ⟨fin, w', ρ', v', s1, s2, r, _, _, hv⟩ := h W _ _ W #[] (start hg hsz hc) (by show RelVs _ [] _; simp [RelVs]) .normal fs (.inl rfl)
  have hv : v' = .bool true := hv
  subst hv
  obtain ⟨h1, h2, h3, h4, fn, h5, _, h6⟩ := s2
  exact ⟨.returned (.bool true), w', fin, ⟨rfl, r.os, r.output, fun c hc => (r.kept c hc).2⟩, s1, h1, h2, h3, h4, fn, by rw [h1]; exact h5, h6⟩

end Go.Proofs.YtiimhfmdhofffaaGreatDoor
