/- The call of awake, in any world whose table of spaces is laid, returns true and changes nothing that was there. Conditions: the table of spaces reads as the program lays it. -/
import Derived.Test.YthjedmfjmllboaaGreatDoorR0
import Derived.Test.YthjedmfjmllboaaGreatDoorR1
import Derived.Test.YthjedmfjmllboaaGreatDoorR2
import Derived.Test.YthjedmfjmllboaaGreatDoorR3
import Derived.Test.YthjedmfjmllboaaGreatDoorR4
import Derived.Test.YthjedmfjmllboaaGreatDoorR5
import Derived.Test.YthjedmfjmllboaaGreatDoorR6
import Derived.Test.YthjedmfjmllboaaGreatDoorR7
import Derived.Test.YthjedmfjmllboaaGreatDoorR8
import Derived.Test.YthjedmfjmllboaaGreatDoorR9
import Derived.Test.YthjedmfjmllboaaGreatDoorR10
import Derived.Test.YthjedmfjmllboaaGreatDoorR11
import Derived.Test.YthjedmfjmllboaaGreatDoorRows
import Derived.ProofKit
import Derived.LaidMore
import Derived.OpenShut
namespace Go.Proofs.YthjedmfjmllboaaGreatDoor
open Go Go.Ev
theorem e0_ok : EntryOk E e0 := entryOk (ms := []) trivial w0 r0
theorem e1_ok : EntryOk E e1 := entryOk (ms := [e0]) ⟨e0_ok, trivial⟩ w1 r1
theorem e2_ok : EntryOk E e2 := entryOk (ms := [e1]) ⟨e1_ok, trivial⟩ w2 r2
theorem e3_ok : EntryOk E e3 := entryOk (ms := [e2]) ⟨e2_ok, trivial⟩ w3 r3
theorem e4_ok : EntryOk E e4 := entryOk (ms := [e3]) ⟨e3_ok, trivial⟩ w4 r4
theorem e5_ok : EntryOk E e5 := entryOk (ms := []) trivial w5 r5
theorem e6_ok : EntryOk E e6 := entryOk (ms := [e0]) ⟨e0_ok, trivial⟩ w6 r6
theorem e7_ok : EntryOk E e7 := entryOk (ms := [e6]) ⟨e6_ok, trivial⟩ w7 r7
theorem e8_ok : EntryOk E e8 := entryOk (ms := [e0]) ⟨e0_ok, trivial⟩ w8 r8
theorem e9_ok : EntryOk E e9 := entryOk (ms := [e8]) ⟨e8_ok, trivial⟩ w9 r9
theorem e10_ok : EntryOk E e10 := entryOk (ms := [e0]) ⟨e0_ok, trivial⟩ w10 r10
theorem e11_ok : EntryOk E e11 := entryOk (ms := [e10]) ⟨e10_ok, trivial⟩ w11 r11
theorem e12_ok : EntryOk E e12 := entryOk (ms := [e0]) ⟨e0_ok, trivial⟩ w12 r12
theorem e13_ok : EntryOk E e13 := entryOk (ms := [e12]) ⟨e12_ok, trivial⟩ w13 r13
theorem e14_ok : EntryOk E e14 := entryOk (ms := [e0]) ⟨e0_ok, trivial⟩ w14 r14
theorem e15_ok : EntryOk E e15 := entryOk (ms := [e14]) ⟨e14_ok, trivial⟩ w15 r15
theorem e16_ok : EntryOk E e16 := entryOk (ms := [e0]) ⟨e0_ok, trivial⟩ w16 r16
theorem e17_ok : EntryOk E e17 := entryOk (ms := [e16]) ⟨e16_ok, trivial⟩ w17 r17
theorem e18_ok : EntryOk E e18 := entryOk (ms := [e0]) ⟨e0_ok, trivial⟩ w18 r18
theorem e19_ok : EntryOk E e19 := entryOk (ms := [e18]) ⟨e18_ok, trivial⟩ w19 r19
theorem e20_ok : EntryOk E e20 := entryOk (ms := [e19, e17, e15, e13, e11, e9, e7, e5]) ⟨e19_ok, e17_ok, e15_ok, e13_ok, e11_ok, e9_ok, e7_ok, e5_ok, trivial⟩ w20 r20
theorem e21_ok : EntryOk E e21 := entryOk (ms := [e20]) ⟨e20_ok, trivial⟩ w21 r21
theorem e22_ok : EntryOk E e22 := entryOk (ms := [e21]) ⟨e21_ok, trivial⟩ w22 r22
theorem e23_ok : EntryOk E e23 := entryOk (ms := [e22]) ⟨e22_ok, trivial⟩ w23 r23
theorem e24_ok : EntryOk E e24 := entryOk (ms := [e20]) ⟨e20_ok, trivial⟩ w24 r24
theorem e25_ok : EntryOk E e25 := entryOk (ms := [e20]) ⟨e20_ok, trivial⟩ w25 r25
theorem e26_ok : EntryOk E e26 := entryOk (ms := [e20]) ⟨e20_ok, trivial⟩ w26 r26
theorem e27_ok : EntryOk E e27 := entryOk (ms := [e20]) ⟨e20_ok, trivial⟩ w27 r27
theorem e28_ok : EntryOk E e28 := entryOk (ms := [e20]) ⟨e20_ok, trivial⟩ w28 r28
theorem e29_ok : EntryOk E e29 := entryOk (ms := [e28, e27, e26, e25, e24]) ⟨e28_ok, e27_ok, e26_ok, e25_ok, e24_ok, trivial⟩ w29 r29
theorem e30_ok : EntryOk E e30 := entryOk (ms := [e6]) ⟨e6_ok, trivial⟩ w30 r30
theorem e31_ok : EntryOk E e31 := entryOk (ms := [e8]) ⟨e8_ok, trivial⟩ w31 r31
theorem e32_ok : EntryOk E e32 := entryOk (ms := [e14]) ⟨e14_ok, trivial⟩ w32 r32
theorem e33_ok : EntryOk E e33 := entryOk (ms := [e32, e31, e30]) ⟨e32_ok, e31_ok, e30_ok, trivial⟩ w33 r33
theorem e34_ok : EntryOk E e34 := entryOk (ms := [e33]) ⟨e33_ok, trivial⟩ w34 r34
theorem e35_ok : EntryOk E e35 := entryOk (ms := [e34, e29, e23]) ⟨e34_ok, e29_ok, e23_ok, trivial⟩ w35 r35
theorem e36_ok : EntryOk E e36 := entryOk (ms := [e35, e23]) ⟨e35_ok, e23_ok, trivial⟩ w36 r36
theorem e37_ok : EntryOk E e37 := entryOk (ms := []) trivial w37 r37
theorem e38_ok : EntryOk E e38 := entryOk (ms := [e37, e33]) ⟨e37_ok, e33_ok, trivial⟩ w38 r38
theorem e39_ok : EntryOk E e39 := entryOk (ms := [e38]) ⟨e38_ok, trivial⟩ w39 r39
theorem e40_ok : EntryOk E e40 := entryOk (ms := [e39]) ⟨e39_ok, trivial⟩ w40 r40
theorem e41_ok : EntryOk E e41 := entryOk (ms := [e40, e34]) ⟨e40_ok, e34_ok, trivial⟩ w41 r41
theorem e42_ok : EntryOk E e42 := entryOk (ms := [e37, e33]) ⟨e37_ok, e33_ok, trivial⟩ w42 r42
theorem e43_ok : EntryOk E e43 := entryOk (ms := [e42]) ⟨e42_ok, trivial⟩ w43 r43
theorem e44_ok : EntryOk E e44 := entryOk (ms := [e43]) ⟨e43_ok, trivial⟩ w44 r44
theorem e45_ok : EntryOk E e45 := entryOk (ms := [e44, e34]) ⟨e44_ok, e34_ok, trivial⟩ w45 r45
theorem e46_ok : EntryOk E e46 := entryOk (ms := [e42]) ⟨e42_ok, trivial⟩ w46 r46
theorem e47_ok : EntryOk E e47 := entryOk (ms := [e37, e33]) ⟨e37_ok, e33_ok, trivial⟩ w47 r47
theorem e48_ok : EntryOk E e48 := entryOk (ms := [e47]) ⟨e47_ok, trivial⟩ w48 r48
theorem e49_ok : EntryOk E e49 := entryOk (ms := [e48, e46]) ⟨e48_ok, e46_ok, trivial⟩ w49 r49
theorem e50_ok : EntryOk E e50 := entryOk (ms := [e49, e45]) ⟨e49_ok, e45_ok, trivial⟩ w50 r50
theorem e62_ok : EntryOk E e62 := entryOk (ms := []) trivial w62 r62
theorem e63_ok : EntryOk E e63 := entryOk (ms := []) trivial w63 r63
theorem e64_ok : EntryOk E e64 := entryOk (ms := []) trivial w64 r64
theorem e65_ok : EntryOk E e65 := entryOk (ms := [e64]) ⟨e64_ok, trivial⟩ w65 r65
theorem e66_ok : EntryOk E e66 := entryOk (ms := [e37, e33]) ⟨e37_ok, e33_ok, trivial⟩ w66 r66
theorem e67_ok : EntryOk E e67 := entryOk (ms := [e66]) ⟨e66_ok, trivial⟩ w67 r67
theorem e68_ok : EntryOk E e68 := entryOk (ms := [e67]) ⟨e67_ok, trivial⟩ w68 r68
theorem e69_ok : EntryOk E e69 := entryOk (ms := [e68, e34]) ⟨e68_ok, e34_ok, trivial⟩ w69 r69
theorem e70_ok : EntryOk E e70 := entryOk (ms := [e66]) ⟨e66_ok, trivial⟩ w70 r70
theorem e71_ok : EntryOk E e71 := entryOk (ms := [e70]) ⟨e70_ok, trivial⟩ w71 r71
theorem e72_ok : EntryOk E e72 := entryOk (ms := [e71, e69]) ⟨e71_ok, e69_ok, trivial⟩ w72 r72
theorem e73_ok : EntryOk E e73 := entryOk (ms := [e72, e65, e63, e50, e41, e38, e36]) ⟨e72_ok, e65_ok, e63_ok, e50_ok, e41_ok, e38_ok, e36_ok, trivial⟩ w73 r73
theorem e74_ok : EntryOk E e74 := entryOk (ms := []) trivial w74 r74
theorem e75_ok : EntryOk E e75 := entryOk (ms := [e74]) ⟨e74_ok, trivial⟩ w75 r75
theorem e76_ok : EntryOk E e76 := entryOk (ms := [e37, e33]) ⟨e37_ok, e33_ok, trivial⟩ w76 r76
theorem e77_ok : EntryOk E e77 := entryOk (ms := [e76]) ⟨e76_ok, trivial⟩ w77 r77
theorem e78_ok : EntryOk E e78 := entryOk (ms := [e77]) ⟨e77_ok, trivial⟩ w78 r78
theorem e79_ok : EntryOk E e79 := entryOk (ms := [e78, e34]) ⟨e78_ok, e34_ok, trivial⟩ w79 r79
theorem e80_ok : EntryOk E e80 := entryOk (ms := [e76]) ⟨e76_ok, trivial⟩ w80 r80
theorem e81_ok : EntryOk E e81 := entryOk (ms := [e37, e33]) ⟨e37_ok, e33_ok, trivial⟩ w81 r81
theorem e82_ok : EntryOk E e82 := entryOk (ms := [e81]) ⟨e81_ok, trivial⟩ w82 r82
theorem e83_ok : EntryOk E e83 := entryOk (ms := [e37, e33]) ⟨e37_ok, e33_ok, trivial⟩ w83 r83
theorem e84_ok : EntryOk E e84 := entryOk (ms := [e83]) ⟨e83_ok, trivial⟩ w84 r84
theorem e85_ok : EntryOk E e85 := entryOk (ms := [e84, e82, e80]) ⟨e84_ok, e82_ok, e80_ok, trivial⟩ w85 r85
theorem e86_ok : EntryOk E e86 := entryOk (ms := [e85, e79]) ⟨e85_ok, e79_ok, trivial⟩ w86 r86
theorem e87_ok : EntryOk E e87 := entryOk (ms := []) trivial w87 r87
theorem e88_ok : EntryOk E e88 := entryOk (ms := [e87]) ⟨e87_ok, trivial⟩ w88 r88
theorem e89_ok : EntryOk E e89 := entryOk (ms := [e37, e33]) ⟨e37_ok, e33_ok, trivial⟩ w89 r89
theorem e90_ok : EntryOk E e90 := entryOk (ms := [e89]) ⟨e89_ok, trivial⟩ w90 r90
theorem e91_ok : EntryOk E e91 := entryOk (ms := [e90]) ⟨e90_ok, trivial⟩ w91 r91
theorem e92_ok : EntryOk E e92 := entryOk (ms := [e91, e34]) ⟨e91_ok, e34_ok, trivial⟩ w92 r92
theorem e93_ok : EntryOk E e93 := entryOk (ms := [e89]) ⟨e89_ok, trivial⟩ w93 r93
theorem e94_ok : EntryOk E e94 := entryOk (ms := [e93]) ⟨e93_ok, trivial⟩ w94 r94
theorem e95_ok : EntryOk E e95 := entryOk (ms := [e94, e92]) ⟨e94_ok, e92_ok, trivial⟩ w95 r95
theorem e96_ok : EntryOk E e96 := entryOk (ms := []) trivial w96 r96
theorem e97_ok : EntryOk E e97 := entryOk (ms := [e96]) ⟨e96_ok, trivial⟩ w97 r97
theorem e98_ok : EntryOk E e98 := entryOk (ms := [e37, e33]) ⟨e37_ok, e33_ok, trivial⟩ w98 r98
theorem e99_ok : EntryOk E e99 := entryOk (ms := [e98]) ⟨e98_ok, trivial⟩ w99 r99
theorem e100_ok : EntryOk E e100 := entryOk (ms := [e99]) ⟨e99_ok, trivial⟩ w100 r100
theorem e101_ok : EntryOk E e101 := entryOk (ms := [e100, e34]) ⟨e100_ok, e34_ok, trivial⟩ w101 r101
theorem e102_ok : EntryOk E e102 := entryOk (ms := [e98]) ⟨e98_ok, trivial⟩ w102 r102
theorem e103_ok : EntryOk E e103 := entryOk (ms := [e37, e33]) ⟨e37_ok, e33_ok, trivial⟩ w103 r103
theorem e104_ok : EntryOk E e104 := entryOk (ms := [e103]) ⟨e103_ok, trivial⟩ w104 r104
theorem e105_ok : EntryOk E e105 := entryOk (ms := [e37, e33]) ⟨e37_ok, e33_ok, trivial⟩ w105 r105
theorem e106_ok : EntryOk E e106 := entryOk (ms := [e105]) ⟨e105_ok, trivial⟩ w106 r106
theorem e107_ok : EntryOk E e107 := entryOk (ms := [e106, e104, e102]) ⟨e106_ok, e104_ok, e102_ok, trivial⟩ w107 r107
theorem e108_ok : EntryOk E e108 := entryOk (ms := [e107, e101]) ⟨e107_ok, e101_ok, trivial⟩ w108 r108
theorem e109_ok : EntryOk E e109 := entryOk (ms := []) trivial w109 r109
theorem e110_ok : EntryOk E e110 := entryOk (ms := [e109]) ⟨e109_ok, trivial⟩ w110 r110
theorem e111_ok : EntryOk E e111 := entryOk (ms := [e37, e33]) ⟨e37_ok, e33_ok, trivial⟩ w111 r111
theorem e112_ok : EntryOk E e112 := entryOk (ms := [e111]) ⟨e111_ok, trivial⟩ w112 r112
theorem e113_ok : EntryOk E e113 := entryOk (ms := [e112]) ⟨e112_ok, trivial⟩ w113 r113
theorem e114_ok : EntryOk E e114 := entryOk (ms := [e113, e34]) ⟨e113_ok, e34_ok, trivial⟩ w114 r114
theorem e115_ok : EntryOk E e115 := entryOk (ms := [e111]) ⟨e111_ok, trivial⟩ w115 r115
theorem e116_ok : EntryOk E e116 := entryOk (ms := [e115]) ⟨e115_ok, trivial⟩ w116 r116
theorem e117_ok : EntryOk E e117 := entryOk (ms := [e116, e114]) ⟨e116_ok, e114_ok, trivial⟩ w117 r117
theorem e118_ok : EntryOk E e118 := entryOk (ms := []) trivial w118 r118
theorem e119_ok : EntryOk E e119 := entryOk (ms := []) trivial w119 r119
theorem e120_ok : EntryOk E e120 := entryOk (ms := [e119]) ⟨e119_ok, trivial⟩ w120 r120
theorem e121_ok : EntryOk E e121 := entryOk (ms := [e37, e33]) ⟨e37_ok, e33_ok, trivial⟩ w121 r121
theorem e122_ok : EntryOk E e122 := entryOk (ms := [e121]) ⟨e121_ok, trivial⟩ w122 r122
theorem e123_ok : EntryOk E e123 := entryOk (ms := [e122]) ⟨e122_ok, trivial⟩ w123 r123
theorem e124_ok : EntryOk E e124 := entryOk (ms := [e123, e34]) ⟨e123_ok, e34_ok, trivial⟩ w124 r124
theorem e125_ok : EntryOk E e125 := entryOk (ms := [e121]) ⟨e121_ok, trivial⟩ w125 r125
theorem e126_ok : EntryOk E e126 := entryOk (ms := [e37, e33]) ⟨e37_ok, e33_ok, trivial⟩ w126 r126
theorem e127_ok : EntryOk E e127 := entryOk (ms := [e126]) ⟨e126_ok, trivial⟩ w127 r127
theorem e128_ok : EntryOk E e128 := entryOk (ms := [e37, e33]) ⟨e37_ok, e33_ok, trivial⟩ w128 r128
theorem e129_ok : EntryOk E e129 := entryOk (ms := [e128]) ⟨e128_ok, trivial⟩ w129 r129
theorem e130_ok : EntryOk E e130 := entryOk (ms := [e129, e127, e125]) ⟨e129_ok, e127_ok, e125_ok, trivial⟩ w130 r130
theorem e131_ok : EntryOk E e131 := entryOk (ms := [e130, e124]) ⟨e130_ok, e124_ok, trivial⟩ w131 r131
theorem e132_ok : EntryOk E e132 := entryOk (ms := [e131, e120, e118, e117, e110, e109, e108, e97, e96, e95, e88, e87, e86, e75, e74, e72, e65, e63, e50, e41, e38, e36]) ⟨e131_ok, e120_ok, e118_ok, e117_ok, e110_ok, e109_ok, e108_ok, e97_ok, e96_ok, e95_ok, e88_ok, e87_ok, e86_ok, e75_ok, e74_ok, e72_ok, e65_ok, e63_ok, e50_ok, e41_ok, e38_ok, e36_ok, trivial⟩ w132 r132
theorem e133_ok : EntryOk E e133 := entryOk (ms := [e132, e73, e62, e4]) ⟨e132_ok, e73_ok, e62_ok, e4_ok, trivial⟩ w133 r133
/-- a table of bytes, as data and as the evaluator's cells -/
def tabOk : List (DataW Unit) → List KV → Bool
  | .lit (.int k a) :: r, .int k' b :: s => decide (k = k') && (decide (a = b) && tabOk r s)
  | [], [] => true
  | _, _ => false

theorem tabOk_get : ∀ {l : List (DataW Unit)} {s : List KV}, tabOk l s = true → ∀ (i : Nat) (q : KV), s[i]? = some q → ∃ k b, q = KV.int k b ∧ l[i]? = some (DataW.lit (Lit.int k b))
  | [], [], _, i, q, h => by simp at h
  | [], _ :: _, h, _, _, _ => by simp [tabOk] at h
  | a :: r, [], h, i, q, hq => by simp at hq
  | a :: r, b :: s, h, i, q, hq => by
    unfold tabOk at h
    split at h
    · rename_i l1 s1 k x r1 k' y s2 e1 e2
      cases e1; cases e2
      simp only [Bool.and_eq_true, decide_eq_true_eq] at h
      obtain ⟨rfl, rfl, h3⟩ := h
      cases i with
      | zero => simp only [List.getElem?_cons_zero, Option.some.injEq] at hq; subst hq; exact ⟨k, x, rfl, by simp⟩
      | succ i => exact tabOk_get h3 i q (by simpa using hq)
    · rename_i e1 _; cases e1
    · cases h

def ascK : List KV := match tb.2 with | .row _ l => l | .map _ => []
def ascD : List (DataW Unit) := match (Rows.laid_strings_asciiSpace : DataW Unit) with | .agg l => l | _ => []

theorem ascOk : tabOk ascD ascK = true := by kernel_rfl

theorem gAsc : Tryz.prog.globalNamed "strings.asciiSpace" = some 0 := by kernel_rfl
theorem tAsc : (Tryz.prog.globals[0]?).map (·.type) = some 530 := by kernel_rfl
theorem uAsc : Tryz.prog.underlying 530 = some (.array 256 5) := by kernel_rfl
theorem uByte : Tryz.prog.underlying 5 = some (.int .u8) := by kernel_rfl
theorem cByte : Tryz.prog.cellsOf 5 = 1 := by kernel_rfl
theorem cAsc : Tryz.prog.cellsOf 530 = 256 := by kernel_rfl

/-- what a laid table of bytes gives -/
theorem laid_cells {W : World} {cs : Array Value} {f : Nat} {p : List MemPlace} {e : TypeId} {n t : Nat} {l : List (DataW Unit)} (h1 : Tryz.prog.underlying t = some (.array n e)) (h2 : Tryz.prog.underlying e = some (.int .u8)) (h3 : Tryz.prog.cellsOf e = 1)
    (hd : DataW.trod (fun _ => ()) Tryz.prog W 0 (fun _ => true) false f t cs.toList = some (.agg l, p)) : ∀ (i : Nat) (k : IntKind) (b : Int), l[i]? = some (DataW.lit (Lit.int k b)) → cs[i]? = some (Value.int k b) := by
  intro i k b hi
  obtain ⟨xs, m1, rfl, hx, hlen, hn, hel⟩ := DataW.trod_array h1 hd
  simp only [Prod.mk.injEq, DataW.agg.injEq] at hx
  obtain ⟨hx, _⟩ := hx
  rw [hx, List.getElem?_map] at hi
  cases hxi : xs[i]? with
  | none => rw [hxi] at hi; cases hi
  | some x =>
    rw [hxi] at hi
    simp only [Option.map_some, Option.some.injEq] at hi
    have hlt : i < n := by
      have := (List.getElem?_eq_some_iff.1 hxi).1
      omega
    have h4 := hel i hlt
    rw [hxi] at h4
    obtain ⟨q, g1, g2, _⟩ := DataW.trod_int h2 h4
    rw [g2] at hi
    simp only [DataW.lit.injEq, Lit.int.injEq] at hi
    obtain ⟨rfl, rfl⟩ := hi
    rw [h3, Nat.mul_one] at g1
    have : (cs.toList.drop i)[0]? = some (.int .u8 q) := by
      have := congrArg (fun l => l[0]?) g1
      simpa [List.getElem?_take] using this
    simpa [List.getElem?_drop] using this

/-- the evaluator's start -/
theorem start {W : World} {cs : Array Value} {el : TypeId} {fz : Nat × Nat} (hg : W.heap[0]? = some (.cells cs el fz)) (hsz : 256 ≤ cs.size) (hc : ∀ (i : Nat) (k : IntKind) (b : Int), ascD[i]? = some (DataW.lit (Lit.int k b)) → cs[i]? = some (Value.int k b)) :
    Rel W (fun c => c < W.heap.size) (fun g => if g < 200 then some (g, if g = 0 then cs.size else 0) else none) (heapOf [tb]) 200 W where
  img b o c N hb hr := by
    obtain ⟨lo, hm, rfl⟩ := heapOf_mem hb
    have hm : (b, lo) = tb := by simpa using hm
    have hb0 : b = 0 := congrArg Prod.fst hm
    have hlo : lo = .row true ascK := congrArg Prod.snd hm
    subst hb0
    simp only [show (0 : Nat) < 200 by decide, if_true, Option.some.injEq, Prod.mk.injEq] at hr
    obtain ⟨rfl, rfl⟩ := hr
    refine ⟨_, hg, ?_, fun hw => ?_⟩
    · rw [hlo]
      refine ⟨cs, el, fz, rfl, ?_, rfl, (fun e => by cases e), fun i k hk => ?_⟩
      · have : nlen ascK = 256 := by kernel_rfl
        rw [this]; exact hsz
      · rw [cellsOf_get, if_pos (Nat.zero_le _)] at hk
        obtain ⟨kd, x, rfl, h2⟩ := tabOk_get ascOk i k (by simpa using hk)
        exact ⟨rfl, _, hc i kd x h2, by simp only [RelV]⟩
    · rw [hlo] at hw; simp [toObj, KObj.writable] at hw
  low b o hb := by
    obtain ⟨lo, hm, _⟩ := heapOf_mem hb
    have hm : (b, lo) = tb := by simpa using hm
    have hb0 : b = 0 := congrArg Prod.fst hm
    omega
  fresh b hb := by rw [if_neg (by omega)]
  inj b b' o o' c N N' h1 h2 h3 h4 := by
    split at h3
    · split at h4
      · simp only [Option.some.injEq, Prod.mk.injEq] at h3 h4; omega
      · cases h4
    · cases h3
  kept c hk := ⟨hk, rfl⟩
  grown := Nat.le_refl _
  os := rfl
  output := rfl
  glob g hg := ⟨_, if_pos hg⟩

/-- awake's call: true, and what was there is as it was -/
theorem awake_calls {W : World} {cs : Array Value} {el : TypeId} {fz : Nat × Nat} (hg : W.heap[0]? = some (.cells cs el fz)) (hsz : 256 ≤ cs.size) (hc : ∀ (i : Nat) (k : IntKind) (b : Int), ascD[i]? = some (DataW.lit (Lit.int k b)) → cs[i]? = some (Value.int k b)) :
    Calls Tryz.prog 6 #[] W fun e W' => e = .returned (.bool true) ∧ W'.os = W.os ∧ W'.output = W.output ∧ W.heap.size ≤ W'.heap.size ∧ ∀ c, c < W.heap.size → W'.heap[c]? = W.heap[c]? := by
  intro fs
  obtain ⟨_, _, h⟩ := e133_ok
  obtain ⟨fin, w', ρ', v', s1, s2, r, _, _, hv⟩ := h W _ _ W #[] (start hg hsz hc) (by show RelVs _ [] _; simp [RelVs]) .normal fs (.inl rfl)
  have hv : v' = .bool true := hv
  subst hv
  obtain ⟨h1, h2, h3, h4, fn, h5, _, h6⟩ := s2
  exact ⟨.returned (.bool true), w', fin, ⟨rfl, r.os, r.output, r.grown, fun c hc => (r.kept c hc).2⟩, s1, h1, h2, h3, h4, fn, by rw [h1]; exact h5, h6⟩

end Go.Proofs.YthjedmfjmllboaaGreatDoor
