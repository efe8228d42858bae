/- The call of awake, in any world whose table of spaces is laid, returns true and changes nothing that was there. Conditions: the table of spaces reads as the program lays it. -/
import Derived.Test.YtmcfpcgpjppfkaaGreatDoorR0
import Derived.Test.YtmcfpcgpjppfkaaGreatDoorR1
import Derived.Test.YtmcfpcgpjppfkaaGreatDoorR2
import Derived.Test.YtmcfpcgpjppfkaaGreatDoorR3
import Derived.Test.YtmcfpcgpjppfkaaGreatDoorR4
import Derived.Test.YtmcfpcgpjppfkaaGreatDoorR5
import Derived.Test.YtmcfpcgpjppfkaaGreatDoorR6
import Derived.Test.YtmcfpcgpjppfkaaGreatDoorR7
import Derived.Test.YtmcfpcgpjppfkaaGreatDoorR8
import Derived.Test.YtmcfpcgpjppfkaaGreatDoorR9
import Derived.Test.YtmcfpcgpjppfkaaGreatDoorRows
import Derived.ProofKit
import Derived.LaidMore
import Derived.OpenShut
namespace Go.Proofs.YtmcfpcgpjppfkaaGreatDoor
open Go Go.Ev
theorem e0_ok : EntryOk E e0 := entryOk (ms := []) trivial w0 r0
theorem e1_ok : EntryOk E e1 := entryOk (ms := [e0]) ⟨e0_ok, trivial⟩ w1 r1
theorem e2_ok : EntryOk E e2 := entryOk (ms := [e1]) ⟨e1_ok, trivial⟩ w2 r2
theorem e3_ok : EntryOk E e3 := entryOk (ms := [e2]) ⟨e2_ok, trivial⟩ w3 r3
theorem e4_ok : EntryOk E e4 := entryOk (ms := [e3]) ⟨e3_ok, trivial⟩ w4 r4
theorem e5_ok : EntryOk E e5 := entryOk (ms := []) trivial w5 r5
theorem e6_ok : EntryOk E e6 := entryOk (ms := [e0]) ⟨e0_ok, trivial⟩ w6 r6
theorem e7_ok : EntryOk E e7 := entryOk (ms := [e6]) ⟨e6_ok, trivial⟩ w7 r7
theorem e8_ok : EntryOk E e8 := entryOk (ms := [e0]) ⟨e0_ok, trivial⟩ w8 r8
theorem e9_ok : EntryOk E e9 := entryOk (ms := [e8]) ⟨e8_ok, trivial⟩ w9 r9
theorem e10_ok : EntryOk E e10 := entryOk (ms := [e0]) ⟨e0_ok, trivial⟩ w10 r10
theorem e11_ok : EntryOk E e11 := entryOk (ms := [e10]) ⟨e10_ok, trivial⟩ w11 r11
theorem e12_ok : EntryOk E e12 := entryOk (ms := [e0]) ⟨e0_ok, trivial⟩ w12 r12
theorem e13_ok : EntryOk E e13 := entryOk (ms := [e12]) ⟨e12_ok, trivial⟩ w13 r13
theorem e14_ok : EntryOk E e14 := entryOk (ms := [e0]) ⟨e0_ok, trivial⟩ w14 r14
theorem e15_ok : EntryOk E e15 := entryOk (ms := [e14]) ⟨e14_ok, trivial⟩ w15 r15
theorem e16_ok : EntryOk E e16 := entryOk (ms := [e0]) ⟨e0_ok, trivial⟩ w16 r16
theorem e17_ok : EntryOk E e17 := entryOk (ms := [e16]) ⟨e16_ok, trivial⟩ w17 r17
theorem e18_ok : EntryOk E e18 := entryOk (ms := [e0]) ⟨e0_ok, trivial⟩ w18 r18
theorem e19_ok : EntryOk E e19 := entryOk (ms := [e18]) ⟨e18_ok, trivial⟩ w19 r19
theorem e20_ok : EntryOk E e20 := entryOk (ms := [e19, e17, e15, e13, e11, e9, e7, e5]) ⟨e19_ok, e17_ok, e15_ok, e13_ok, e11_ok, e9_ok, e7_ok, e5_ok, trivial⟩ w20 r20
theorem e21_ok : EntryOk E e21 := entryOk (ms := [e20]) ⟨e20_ok, trivial⟩ w21 r21
theorem e22_ok : EntryOk E e22 := entryOk (ms := [e20]) ⟨e20_ok, trivial⟩ w22 r22
theorem e23_ok : EntryOk E e23 := entryOk (ms := [e20]) ⟨e20_ok, trivial⟩ w23 r23
theorem e24_ok : EntryOk E e24 := entryOk (ms := [e20]) ⟨e20_ok, trivial⟩ w24 r24
theorem e25_ok : EntryOk E e25 := entryOk (ms := [e20]) ⟨e20_ok, trivial⟩ w25 r25
theorem e26_ok : EntryOk E e26 := entryOk (ms := [e20]) ⟨e20_ok, trivial⟩ w26 r26
theorem e27_ok : EntryOk E e27 := entryOk (ms := [e26, e25, e24, e23, e22]) ⟨e26_ok, e25_ok, e24_ok, e23_ok, e22_ok, trivial⟩ w27 r27
theorem e28_ok : EntryOk E e28 := entryOk (ms := [e6]) ⟨e6_ok, trivial⟩ w28 r28
theorem e29_ok : EntryOk E e29 := entryOk (ms := [e8]) ⟨e8_ok, trivial⟩ w29 r29
theorem e30_ok : EntryOk E e30 := entryOk (ms := [e14]) ⟨e14_ok, trivial⟩ w30 r30
theorem e31_ok : EntryOk E e31 := entryOk (ms := [e30, e29, e28]) ⟨e30_ok, e29_ok, e28_ok, trivial⟩ w31 r31
theorem e32_ok : EntryOk E e32 := entryOk (ms := [e31]) ⟨e31_ok, trivial⟩ w32 r32
theorem e33_ok : EntryOk E e33 := entryOk (ms := [e32, e27, e21]) ⟨e32_ok, e27_ok, e21_ok, trivial⟩ w33 r33
theorem e34_ok : EntryOk E e34 := entryOk (ms := []) trivial w34 r34
theorem e35_ok : EntryOk E e35 := entryOk (ms := [e34, e31]) ⟨e34_ok, e31_ok, trivial⟩ w35 r35
theorem e36_ok : EntryOk E e36 := entryOk (ms := [e34, e31]) ⟨e34_ok, e31_ok, trivial⟩ w36 r36
theorem e37_ok : EntryOk E e37 := entryOk (ms := [e36]) ⟨e36_ok, trivial⟩ w37 r37
theorem e38_ok : EntryOk E e38 := entryOk (ms := [e34, e31]) ⟨e34_ok, e31_ok, trivial⟩ w38 r38
theorem e39_ok : EntryOk E e39 := entryOk (ms := [e38]) ⟨e38_ok, trivial⟩ w39 r39
theorem e40_ok : EntryOk E e40 := entryOk (ms := [e39, e37]) ⟨e39_ok, e37_ok, trivial⟩ w40 r40
theorem e41_ok : EntryOk E e41 := entryOk (ms := [e34, e31]) ⟨e34_ok, e31_ok, trivial⟩ w41 r41
theorem e42_ok : EntryOk E e42 := entryOk (ms := [e41]) ⟨e41_ok, trivial⟩ w42 r42
theorem e43_ok : EntryOk E e43 := entryOk (ms := [e42]) ⟨e42_ok, trivial⟩ w43 r43
theorem e44_ok : EntryOk E e44 := entryOk (ms := [e34, e31]) ⟨e34_ok, e31_ok, trivial⟩ w44 r44
theorem e45_ok : EntryOk E e45 := entryOk (ms := [e44]) ⟨e44_ok, trivial⟩ w45 r45
theorem e46_ok : EntryOk E e46 := entryOk (ms := [e34, e31]) ⟨e34_ok, e31_ok, trivial⟩ w46 r46
theorem e47_ok : EntryOk E e47 := entryOk (ms := [e46]) ⟨e46_ok, trivial⟩ w47 r47
theorem e48_ok : EntryOk E e48 := entryOk (ms := [e34, e31]) ⟨e34_ok, e31_ok, trivial⟩ w48 r48
theorem e49_ok : EntryOk E e49 := entryOk (ms := [e48]) ⟨e48_ok, trivial⟩ w49 r49
theorem e50_ok : EntryOk E e50 := entryOk (ms := [e49, e47, e45]) ⟨e49_ok, e47_ok, e45_ok, trivial⟩ w50 r50
theorem e51_ok : EntryOk E e51 := entryOk (ms := [e34, e31]) ⟨e34_ok, e31_ok, trivial⟩ w51 r51
theorem e52_ok : EntryOk E e52 := entryOk (ms := [e51]) ⟨e51_ok, trivial⟩ w52 r52
theorem e53_ok : EntryOk E e53 := entryOk (ms := [e52]) ⟨e52_ok, trivial⟩ w53 r53
theorem e54_ok : EntryOk E e54 := entryOk (ms := [e34, e31]) ⟨e34_ok, e31_ok, trivial⟩ w54 r54
theorem e55_ok : EntryOk E e55 := entryOk (ms := [e54]) ⟨e54_ok, trivial⟩ w55 r55
theorem e56_ok : EntryOk E e56 := entryOk (ms := [e34, e31]) ⟨e34_ok, e31_ok, trivial⟩ w56 r56
theorem e57_ok : EntryOk E e57 := entryOk (ms := [e56]) ⟨e56_ok, trivial⟩ w57 r57
theorem e58_ok : EntryOk E e58 := entryOk (ms := [e34, e31]) ⟨e34_ok, e31_ok, trivial⟩ w58 r58
theorem e59_ok : EntryOk E e59 := entryOk (ms := [e58]) ⟨e58_ok, trivial⟩ w59 r59
theorem e60_ok : EntryOk E e60 := entryOk (ms := [e59, e57, e55]) ⟨e59_ok, e57_ok, e55_ok, trivial⟩ w60 r60
theorem e61_ok : EntryOk E e61 := entryOk (ms := [e34, e31]) ⟨e34_ok, e31_ok, trivial⟩ w61 r61
theorem e62_ok : EntryOk E e62 := entryOk (ms := [e61]) ⟨e61_ok, trivial⟩ w62 r62
theorem e63_ok : EntryOk E e63 := entryOk (ms := [e62]) ⟨e62_ok, trivial⟩ w63 r63
theorem e64_ok : EntryOk E e64 := entryOk (ms := [e34, e31]) ⟨e34_ok, e31_ok, trivial⟩ w64 r64
theorem e65_ok : EntryOk E e65 := entryOk (ms := [e64]) ⟨e64_ok, trivial⟩ w65 r65
theorem e66_ok : EntryOk E e66 := entryOk (ms := [e34, e31]) ⟨e34_ok, e31_ok, trivial⟩ w66 r66
theorem e67_ok : EntryOk E e67 := entryOk (ms := [e66]) ⟨e66_ok, trivial⟩ w67 r67
theorem e68_ok : EntryOk E e68 := entryOk (ms := [e34, e31]) ⟨e34_ok, e31_ok, trivial⟩ w68 r68
theorem e69_ok : EntryOk E e69 := entryOk (ms := [e68]) ⟨e68_ok, trivial⟩ w69 r69
theorem e70_ok : EntryOk E e70 := entryOk (ms := [e69, e67, e65]) ⟨e69_ok, e67_ok, e65_ok, trivial⟩ w70 r70
theorem e71_ok : EntryOk E e71 := entryOk (ms := [e70, e63, e60, e53, e50, e43, e40, e35, e33]) ⟨e70_ok, e63_ok, e60_ok, e53_ok, e50_ok, e43_ok, e40_ok, e35_ok, e33_ok, trivial⟩ w71 r71
theorem e72_ok : EntryOk E e72 := entryOk (ms := [e71]) ⟨e71_ok, trivial⟩ w72 r72
theorem e73_ok : EntryOk E e73 := entryOk (ms := [e71]) ⟨e71_ok, trivial⟩ w73 r73
theorem e74_ok : EntryOk E e74 := entryOk (ms := [e71]) ⟨e71_ok, trivial⟩ w74 r74
theorem e75_ok : EntryOk E e75 := entryOk (ms := []) trivial w75 r75
theorem e76_ok : EntryOk E e76 := entryOk (ms := [e75, e74, e73, e72, e4]) ⟨e75_ok, e74_ok, e73_ok, e72_ok, e4_ok, trivial⟩ w76 r76
/-- a table of bytes, as data and as the evaluator's cells -/
def tabOk : List (DataW Unit) → List KV → Bool
  | .lit (.int k a) :: r, .int k' b :: s => decide (k = k') && (decide (a = b) && tabOk r s)
  | [], [] => true
  | _, _ => false

theorem tabOk_get : ∀ {l : List (DataW Unit)} {s : List KV}, tabOk l s = true → ∀ (i : Nat) (q : KV), s[i]? = some q → ∃ k b, q = KV.int k b ∧ l[i]? = some (DataW.lit (Lit.int k b))
  | [], [], _, i, q, h => by simp at h
  | [], _ :: _, h, _, _, _ => by simp [tabOk] at h
  | a :: r, [], h, i, q, hq => by simp at hq
  | a :: r, b :: s, h, i, q, hq => by
    unfold tabOk at h
    split at h
    · rename_i l1 s1 k x r1 k' y s2 e1 e2
      cases e1; cases e2
      simp only [Bool.and_eq_true, decide_eq_true_eq] at h
      obtain ⟨rfl, rfl, h3⟩ := h
      cases i with
      | zero => simp only [List.getElem?_cons_zero, Option.some.injEq] at hq; subst hq; exact ⟨k, x, rfl, by simp⟩
      | succ i => exact tabOk_get h3 i q (by simpa using hq)
    · rename_i e1 _; cases e1
    · cases h

def ascK : List KV := match tb.2 with | .row _ l => l | .map _ => []
def ascD : List (DataW Unit) := match (Rows.laid_strings_asciiSpace : DataW Unit) with | .agg l => l | _ => []

theorem ascOk : tabOk ascD ascK = true := by kernel_rfl

theorem gAsc : Tryz.prog.globalNamed "strings.asciiSpace" = some 0 := by kernel_rfl
theorem tAsc : (Tryz.prog.globals[0]?).map (·.type) = some 434 := by kernel_rfl
theorem uAsc : Tryz.prog.underlying 434 = some (.array 256 5) := by kernel_rfl
theorem uByte : Tryz.prog.underlying 5 = some (.int .u8) := by kernel_rfl
theorem cByte : Tryz.prog.cellsOf 5 = 1 := by kernel_rfl
theorem cAsc : Tryz.prog.cellsOf 434 = 256 := by kernel_rfl

/-- what a laid table of bytes gives -/
theorem laid_cells {W : World} {cs : Array Value} {f : Nat} {p : List MemPlace} {e : TypeId} {n t : Nat} {l : List (DataW Unit)} (h1 : Tryz.prog.underlying t = some (.array n e)) (h2 : Tryz.prog.underlying e = some (.int .u8)) (h3 : Tryz.prog.cellsOf e = 1)
    (hd : DataW.trod (fun _ => ()) Tryz.prog W 0 (fun _ => true) false f t cs.toList = some (.agg l, p)) : ∀ (i : Nat) (k : IntKind) (b : Int), l[i]? = some (DataW.lit (Lit.int k b)) → cs[i]? = some (Value.int k b) := by
  intro i k b hi
  obtain ⟨xs, m1, rfl, hx, hlen, hn, hel⟩ := DataW.trod_array h1 hd
  simp only [Prod.mk.injEq, DataW.agg.injEq] at hx
  obtain ⟨hx, _⟩ := hx
  rw [hx, List.getElem?_map] at hi
  cases hxi : xs[i]? with
  | none => rw [hxi] at hi; cases hi
  | some x =>
    rw [hxi] at hi
    simp only [Option.map_some, Option.some.injEq] at hi
    have hlt : i < n := by
      have := (List.getElem?_eq_some_iff.1 hxi).1
      omega
    have h4 := hel i hlt
    rw [hxi] at h4
    obtain ⟨q, g1, g2, _⟩ := DataW.trod_int h2 h4
    rw [g2] at hi
    simp only [DataW.lit.injEq, Lit.int.injEq] at hi
    obtain ⟨rfl, rfl⟩ := hi
    rw [h3, Nat.mul_one] at g1
    have : (cs.toList.drop i)[0]? = some (.int .u8 q) := by
      have := congrArg (fun l => l[0]?) g1
      simpa [List.getElem?_take] using this
    simpa [List.getElem?_drop] using this

/-- the evaluator's start -/
theorem start {W : World} {cs : Array Value} {el : TypeId} {fz : Nat × Nat} (hg : W.heap[0]? = some (.cells cs el fz)) (hsz : 256 ≤ cs.size) (hc : ∀ (i : Nat) (k : IntKind) (b : Int), ascD[i]? = some (DataW.lit (Lit.int k b)) → cs[i]? = some (Value.int k b)) :
    Rel W (fun c => c < W.heap.size) (fun g => if g < 200 then some (g, if g = 0 then cs.size else 0) else none) (heapOf [tb]) 200 W where
  img b o c N hb hr := by
    obtain ⟨lo, hm, rfl⟩ := heapOf_mem hb
    have hm : (b, lo) = tb := by simpa using hm
    have hb0 : b = 0 := congrArg Prod.fst hm
    have hlo : lo = .row true ascK := congrArg Prod.snd hm
    subst hb0
    simp only [show (0 : Nat) < 200 by decide, if_true, Option.some.injEq, Prod.mk.injEq] at hr
    obtain ⟨rfl, rfl⟩ := hr
    refine ⟨_, hg, ?_, fun hw => ?_⟩
    · rw [hlo]
      refine ⟨cs, el, fz, rfl, ?_, rfl, (fun e => by cases e), fun i k hk => ?_⟩
      · have : nlen ascK = 256 := by kernel_rfl
        rw [this]; exact hsz
      · rw [cellsOf_get, if_pos (Nat.zero_le _)] at hk
        obtain ⟨kd, x, rfl, h2⟩ := tabOk_get ascOk i k (by simpa using hk)
        exact ⟨rfl, _, hc i kd x h2, by simp only [RelV]⟩
    · rw [hlo] at hw; simp [toObj, KObj.writable] at hw
  low b o hb := by
    obtain ⟨lo, hm, _⟩ := heapOf_mem hb
    have hm : (b, lo) = tb := by simpa using hm
    have hb0 : b = 0 := congrArg Prod.fst hm
    omega
  fresh b hb := by rw [if_neg (by omega)]
  inj b b' o o' c N N' h1 h2 h3 h4 := by
    split at h3
    · split at h4
      · simp only [Option.some.injEq, Prod.mk.injEq] at h3 h4; omega
      · cases h4
    · cases h3
  kept c hk := ⟨hk, rfl⟩
  grown := Nat.le_refl _
  os := rfl
  output := rfl
  glob g hg := ⟨_, if_pos hg⟩

/-- awake's call: true, and what was there is as it was -/
theorem awake_calls {W : World} {cs : Array Value} {el : TypeId} {fz : Nat × Nat} (hg : W.heap[0]? = some (.cells cs el fz)) (hsz : 256 ≤ cs.size) (hc : ∀ (i : Nat) (k : IntKind) (b : Int), ascD[i]? = some (DataW.lit (Lit.int k b)) → cs[i]? = some (Value.int k b)) :
    Calls Tryz.prog 5 #[] W fun e W' => e = .returned (.bool true) ∧ W'.os = W.os ∧ W'.output = W.output ∧ W.heap.size ≤ W'.heap.size ∧ ∀ c, c < W.heap.size → W'.heap[c]? = W.heap[c]? := by
  intro fs
  obtain ⟨_, _, h⟩ := e76_ok
  obtain ⟨fin, w', ρ', v', s1, s2, r, _, _, hv⟩ := h W _ _ W #[] (start hg hsz hc) (by show RelVs _ [] _; simp [RelVs]) .normal fs (.inl rfl)
  have hv : v' = .bool true := hv
  subst hv
  obtain ⟨h1, h2, h3, h4, fn, h5, _, h6⟩ := s2
  exact ⟨.returned (.bool true), w', fin, ⟨rfl, r.os, r.output, r.grown, fun c hc => (r.kept c hc).2⟩, s1, h1, h2, h3, h4, fn, by rw [h1]; exact h5, h6⟩

end Go.Proofs.YtmcfpcgpjppfkaaGreatDoor
