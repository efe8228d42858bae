/- The call of SiteBytes, and its arguments opened. Conditions: those that the theorems state. -/
import Derived.Test.YtmcfpcgpjppfkaaGreatDoorPJ
import Derived.Test.YtmcfpcgpjppfkaaGreatDoorPH
import Derived.Test.YtmcfpcgpjppfkaaGreatDoorPC
import Derived.Deep.Slices
import Derived.SizedLaws
import Derived.Laws.Rows
namespace Go.Proofs.YtmcfpcgpjppfkaaGreatDoor.PB
open Go.RowKit Go.Proofs.YtmcfpcgpjppfkaaGreatDoorW.PrintWords Go.Proofs.YtmcfpcgpjppfkaaGreatDoorW.PrintLast
set_option linter.unusedVariables false
set_option linter.unusedSimpArgs false
structure B0 (w w':World):Prop where
  os:w'.os=w.os
  output:w'.output=w.output
  size:w.heap.size≤w'.heap.size
  block : ∀ i,i<w.heap.size→w'.heap[i]?=w.heap[i]?
theorem B0.step {w w1 w2:World} (h:Below w.heap.size w w1) (k:B0 w1 w2):B0 w w2:=⟨k.os.trans h.os,k.output.trans h.output,Nat.le_trans h.size k.size,fun i hi=>(k.block i (Nat.lt_of_lt_of_le hi h.size)).trans (h.block i hi)⟩
set_option maxHeartbeats 16000000 in
set_option maxRecDepth 100000 in
theorem law_calls (k:Nat) (f:Fr) (A6:Option Addr) (c6:Nat) (A9:Option Addr) (c9:Nat) (A:Option Addr) (c:Nat) (xs:List Int) (thin:Bool) (w:World) (hC6:Kd.C k113 w A6 f.path.length f.path) (hc6:f.path.length≤c6) (hC9:Kd.C k113 w A9 f.gpath.length f.gpath) (hc9:f.gpath.length≤c9) (hC:Kd.C (Kd.int .u8) w A xs.length xs) (hc:xs.length≤c)
    (hlx:xs.length≤140737488351232) (hT:ripostelaw24_ThinFrame.f k f.dst f.box f.node f.port f.kind f.n f.path f.gbox f.gnode f.gpath f.gn f.lost f.picks []=some thin) (hP:thin=true→xs.length≤2000→PureB k f xs)
    (aw : ∀ w',Below w.heap.size w w'→Calls Tryz.prog 5 #[] w' fun e w''=>e=.returned (.bool true)∧B0 w' w'') :
    Calls Tryz.prog 3 #[.agg (f.cells A6 c6 A9 c9),.slice A xs.length c] w fun e w'=>e=.returned (.bool true)∧B0 w w':=by
  have hu30:=Tryz.underlying30
  have hu28:=Tryz.underlying28
  have hu26:=Tryz.underlying26
  have hu23:=Tryz.underlying23
  have BF:=Aside0.mk (blk_new w (.cells (f.cells A6 c6 A9 c9) 30))
  have HB:=Aside0.mk (below_alloc (Below.refl w.heap.size w) (.cells (f.cells A6 c6 A9 c9) 30))
  have HC6:=Aside0.mk hC6
  have HC9:=Aside0.mk hC9
  have HC:=Aside0.mk hC
  have HT:=Aside0.mk hT
  have AW:=Aside0.mk aw
  have LX:=Aside0.mk hlx
  have CT:=Aside0.mk (show (thin=false∧True)∨(thin=true∧decide ((xs.length:Int) > 2000)=true∧decide (2000<xs.length)=true)∨(thin=true∧decide ((xs.length:Int) > 2000)=false∧decide (2000<xs.length)=false∧Aside0 (PureB k f xs)) by
    cases hth:thin
    · exact .inl ⟨rfl,trivial⟩
    · by_cases h:2000<xs.length
      · exact .inr (.inl ⟨rfl,decide_eq_true (by omega),decide_eq_true h⟩)
      · exact .inr (.inr ⟨rfl,decide_eq_false (by omega),decide_eq_false h,⟨hP hth (by omega)⟩⟩))
  clear hC6 hC9 hC hT aw hP hlx
  go_enter Tryz.func3,Tryz.ntmps3
  go_wp2_with (first
    | ((with_reducible refine gate_callee (f:=4) rfl ?_);refine goesL_ (some 14) rfl rfl Tryz.func4 (by kernel_rfl) rfl #[.agg (f.cells A6 c6 A9 c9),.slice none 0 0] rfl lz ?_;(refine (ripostelaw24_ThinFrame.calls k f.dst f.box f.node f.port f.kind f.n A6 c6 f.path f.gbox f.gnode A9 c9 f.gpath f.gn f.lost f.picks none 0 [] thin _ (Kd.C_below HC6.out HB.out) hc6 (Kd.C_below HC9.out HB.out) hc9 (Kd.C_nil _ _) (Nat.zero_le _) HT.out).mono ?_);rintro e w1 ⟨rfl,hb⟩;refine ⟨_,rfl,?_⟩;replace BF:=Aside0.mk (blk_below BF.out hb);replace HB:=Aside0.mk (below_step HB.out hb);clear hb;(try clear cf0);(try clear cf1);(try clear cf2);(try clear cf3);(try clear cf4);(try clear cf5);(try clear cf6);(try clear cf7);(try clear cf8);(try clear cf9);(try clear cf10);(try clear cf11);(try clear cf12);have cf0:=(blk_cell BF.out 0).trans rfl;have cf1:=(blk_cell BF.out 1).trans rfl;have cf2:=(blk_cell BF.out 2).trans rfl;have cf3:=(blk_cell BF.out 3).trans rfl;have cf4:=(blk_cell BF.out 4).trans rfl;have cf5:=(blk_cell BF.out 5).trans rfl;have cf6:=(blk_cell BF.out 6).trans rfl;have cf7:=(blk_cell BF.out 7).trans rfl;have cf8:=(blk_cell BF.out 8).trans rfl;have cf9:=(blk_cell BF.out 9).trans rfl;have cf10:=(blk_cell BF.out 10).trans rfl;have cf11:=(blk_cell BF.out 11).trans rfl;have cf12:=(blk_cell BF.out 12).trans rfl;rcases CT.out with ⟨rfl,h20⟩ | ⟨rfl,h20,h21⟩ | ⟨rfl,h20,h21,PP⟩)
    | ((with_reducible refine gate_callee (f:=5) rfl ?_);(try (refine gate_guard (by rfl) ?_;dsimp only));refine goesL_ (some 21) rfl rfl Tryz.func5 (by kernel_rfl) rfl #[] rfl lz ?_;(with_reducible refine (AW.out _ HB.out).mono ?_);rintro e w' ⟨rfl,hb⟩;refine ⟨_,rfl,?_⟩;have HF:=Aside0.mk (B0.step HB.out hb);clear hb)
    | ((with_reducible refine gate_callee (f:=7) rfl ?_);obtain ⟨sb,hsb,m6,m9,hcp,p6,p9,y6,y9,hp6,hp9,hy6,hy9,hl6,hl9,hrb,g,l6,l9,hsr,q1,hq1,h,p6',p9',y6',y9',hrr,hp6',hp9',hy6',hy9',hl6',hl9',rr,er1,er2,hsv,hpp,hc0,hgg⟩:=PP.out;have ER1:=Aside0.mk er1;have ER2:=Aside0.mk er2;clear er1 er2;refine goesL_ (some 24) rfl rfl Tryz.func7 (by kernel_rfl) rfl #[.agg (f.cells A6 c6 A9 c9)] rfl lz ?_;(refine (riposteref24_CopyFrame.calls k f.dst f.box f.node f.port f.kind f.n A6 c6 f.path f.gbox f.gnode A9 c9 f.gpath f.gn f.lost f.picks f.dst f.box f.node f.port f.kind f.n f.path f.gbox f.gnode f.gpath f.gn f.lost f.picks _ (Kd.C_below HC6.out HB.out) hc6 (Kd.C_below HC9.out HB.out) hc9 hcp).mono ?_);rintro e w3 ⟨v6,v9,rfl,r6,r9,hb⟩;refine ⟨_,rfl,?_⟩;replace BF:=Aside0.mk (blk_below BF.out hb);replace HB:=Aside0.mk (below_step HB.out hb);clear hb;obtain ⟨P6,d6,rfl⟩:=Kd.R_slice r6;obtain ⟨P9,d9,rfl⟩:=Kd.R_slice r9;have K6:=Aside0.mk (Kd.R_reads' r6).2;have K9:=Aside0.mk (Kd.R_reads' r9).2;clear r6 r9;(try clear cf0);(try clear cf1);(try clear cf2);(try clear cf3);(try clear cf4);(try clear cf5);(try clear cf6);(try clear cf7);(try clear cf8);(try clear cf9);(try clear cf10);(try clear cf11);(try clear cf12);have cf0:=(blk_cell BF.out 0).trans rfl;have cf1:=(blk_cell BF.out 1).trans rfl;have cf2:=(blk_cell BF.out 2).trans rfl;have cf3:=(blk_cell BF.out 3).trans rfl;have cf4:=(blk_cell BF.out 4).trans rfl;have cf5:=(blk_cell BF.out 5).trans rfl;have cf6:=(blk_cell BF.out 6).trans rfl;have cf7:=(blk_cell BF.out 7).trans rfl;have cf8:=(blk_cell BF.out 8).trans rfl;have cf9:=(blk_cell BF.out 9).trans rfl;have cf10:=(blk_cell BF.out 10).trans rfl;have cf11:=(blk_cell BF.out 11).trans rfl;have cf12:=(blk_cell BF.out 12).trans rfl;skip)
    | ((with_reducible refine gate_callee (f:=6) rfl ?_);refine goesL_ (some 25) rfl rfl Tryz.func6 (by kernel_rfl) rfl #[.agg (f.cells P6 d6 P9 d9)] rfl lz ?_;(refine (site_Bytes.calls f P6 d6 P9 d9 _ K6.out.2 K9.out.2 K9.out.1 m6 m9).mono ?_);rintro e w4 ⟨v_,rfl,r1,hb⟩;refine ⟨_,rfl,?_⟩;replace BF:=Aside0.mk (blk_below BF.out hb);replace HB:=Aside0.mk (below_step HB.out hb);clear hb;obtain ⟨Bx,bx,rfl⟩:=Kd.R_slice r1;have HX:=Aside0.mk (Kd.R_reads' r1);clear r1;rw [hsb] at HX ⊢;(try clear cf0);(try clear cf1);(try clear cf2);(try clear cf3);(try clear cf4);(try clear cf5);(try clear cf6);(try clear cf7);(try clear cf8);(try clear cf9);(try clear cf10);(try clear cf11);(try clear cf12);have cf0:=(blk_cell BF.out 0).trans rfl;have cf1:=(blk_cell BF.out 1).trans rfl;have cf2:=(blk_cell BF.out 2).trans rfl;have cf3:=(blk_cell BF.out 3).trans rfl;have cf4:=(blk_cell BF.out 4).trans rfl;have cf5:=(blk_cell BF.out 5).trans rfl;have cf6:=(blk_cell BF.out 6).trans rfl;have cf7:=(blk_cell BF.out 7).trans rfl;have cf8:=(blk_cell BF.out 8).trans rfl;have cf9:=(blk_cell BF.out 9).trans rfl;have cf10:=(blk_cell BF.out 10).trans rfl;have cf11:=(blk_cell BF.out 11).trans rfl;have cf12:=(blk_cell BF.out 12).trans rfl;skip)
    | ((with_reducible refine gate_callee (f:=8) rfl ?_);refine goesL_ (some 30) rfl rfl Tryz.func8 (by kernel_rfl) rfl #[.agg (f.cells A6 c6 A9 c9)] rfl lz ?_;(refine (riposteref24_Bytes.calls k f A6 c6 A9 c9 p6 p9 y6 y9 _ (Kd.C_below HC6.out HB.out) hc6 (Kd.C_below HC9.out HB.out) hc9 hp6 hp9 hy6 hy9 hl6 hl9).mono ?_);rintro e w5 ⟨v_,rfl,r1,hb⟩;refine ⟨_,rfl,?_⟩;replace HX:=Aside0.mk (And.intro HX.out.1 (And.intro HX.out.2.1 (Kd.C_below HX.out.2.2 hb)));replace BF:=Aside0.mk (blk_below BF.out hb);replace HB:=Aside0.mk (below_step HB.out hb);clear hb;obtain ⟨By,by_,rfl⟩:=Kd.R_slice r1;have HY:=Aside0.mk (Kd.R_reads' r1);clear r1;rw [hrb] at HY ⊢;(try clear cf0);(try clear cf1);(try clear cf2);(try clear cf3);(try clear cf4);(try clear cf5);(try clear cf6);(try clear cf7);(try clear cf8);(try clear cf9);(try clear cf10);(try clear cf11);(try clear cf12);have cf0:=(blk_cell BF.out 0).trans rfl;have cf1:=(blk_cell BF.out 1).trans rfl;have cf2:=(blk_cell BF.out 2).trans rfl;have cf3:=(blk_cell BF.out 3).trans rfl;have cf4:=(blk_cell BF.out 4).trans rfl;have cf5:=(blk_cell BF.out 5).trans rfl;have cf6:=(blk_cell BF.out 6).trans rfl;have cf7:=(blk_cell BF.out 7).trans rfl;have cf8:=(blk_cell BF.out 8).trans rfl;have cf9:=(blk_cell BF.out 9).trans rfl;have cf10:=(blk_cell BF.out 10).trans rfl;have cf11:=(blk_cell BF.out 11).trans rfl;have cf12:=(blk_cell BF.out 12).trans rfl;skip)
    | ((with_reducible refine gate_dst (N:=34) rfl ?_);refine Kd.R_lit (Kd.int .u8) (w0:=w5) w5.heap.size 5 ?hg (N:=34) ?hd (xs:=([]:List Int)) (inner:=[]) (ok:=fun _=>True) (okp:=fun _=>True) ?hr ?hp (fun _ hk=>hk) trivial (Below.refl _ _) (Nat.le_refl _) (by simp) ?_;(case hd=>rfl);(case hg=>rfl);(case hr=>exact hz);(case hp=>exact (Reps.none _ _));intro va w6 ho hb hg_ hnew_;have HL:=Aside0.mk hb;have HA:=Aside0.mk ho;clear ho hb hg_ hnew_)
    | ((with_reducible refine gate_dst (N:=36) rfl ?_);refine Kd.R_append_rows (Kd.int .u8) (w0:=w5) w5.heap.size rfl (.tmp 34) (.tmp 35) 31 5 (.int .u8 0) 1 rfl Tryz.underlying31 info5 rfl (by decide) (by decide) va ([]:List Int) xs _ _ _ (fun _=>True) (fun _=>False) rfl rfl HA.out (Kd.C_below HC.out (below_step HB.out HL.out)) (fun _ _ h=>h) (fun _ h=>h.elim) (fun _ _=>trivial) HL.out HL.out.size ?aL ?_;(case aL=>have:=LX.out;simp only [List.length_nil];omega);intro vb w7 ho hb hg hat;rw [List.nil_append] at ho;obtain ⟨Ar,cr,rfl⟩:=Kd.R_slice ho;have HR:=Aside0.mk (Kd.R_reads' ho);replace HX:=Aside0.mk (And.intro HX.out.1 (And.intro HX.out.2.1 (Kd.C_below HX.out.2.2 hb)));replace HY:=Aside0.mk (And.intro HY.out.1 (And.intro HY.out.2.1 (Kd.C_below HY.out.2.2 hb)));replace BF:=Aside0.mk (blk_below BF.out hb);replace HB:=Aside0.mk (below_step HB.out hb);clear ho hb hg hat HL HA)
    | ((with_reducible refine gate_callee (f:=9) rfl ?_);refine goesL_ (some 37) rfl rfl Tryz.func9 (by kernel_rfl) rfl #[.slice Ar xs.length cr] rfl lz ?_;(refine (site_Read.calls k Ar cr xs g q1 _ HR.out.2.2 HR.out.2.1 hsr l6 l9 hq1).mono ?_);rintro e w8 ⟨G6,e6,G9,e9,r,hr,rfl,k6,k6',k9,k9',hb⟩;refine ⟨_,rfl,?_⟩;obtain rfl:r=rr:=hr.trans ER1.out.symm;have M6:=Aside0.mk (And.intro k6' k6);have M9:=Aside0.mk (And.intro k9' k9);replace HX:=Aside0.mk (And.intro HX.out.1 (And.intro HX.out.2.1 (Kd.C_below HX.out.2.2 hb)));replace HY:=Aside0.mk (And.intro HY.out.1 (And.intro HY.out.2.1 (Kd.C_below HY.out.2.2 hb)));replace BF:=Aside0.mk (blk_below BF.out hb);replace HB:=Aside0.mk (below_step HB.out hb);clear hb hr k6 k6' k9 k9')
    | ((with_reducible refine gate_callee (f:=10) rfl ?_);refine goesL_ (some 42) rfl rfl Tryz.func10 (by kernel_rfl) rfl #[.slice A xs.length c] rfl lz ?_;have hb8:Below w8.heap.size w8 (w8.alloc (.cells (r.1.cells G6 e6 G9 e9) 30)):=below_alloc (Below.refl _ _) _;(refine (riposteref24_Read.calls k A c xs h p6' p9' _ y6' y9' _ (Kd.C_below HC.out (below_step HB.out hb8)) hc hrr hp6' hp9' hy6' hy9' hl6' hl9' rfl).mono ?_);rintro e w9 ⟨N6,n6,N9,n9,r',hr,rfl,k6,k6',k9,k9',hb⟩;refine ⟨_,rfl,?_⟩;obtain rfl:r'=r:=hr.trans ER2.out.symm;have X1:=Aside0.mk (blk_below (blk_new w8 (.cells (r'.1.cells G6 e6 G9 e9) 30)) hb);replace hb:=below_step hb8 hb;replace M6:=Aside0.mk (And.intro M6.out.1 (Kd.C_below M6.out.2 hb));replace M9:=Aside0.mk (And.intro M9.out.1 (Kd.C_below M9.out.2 hb));have O6:=Aside0.mk (And.intro k6' k6);have O9:=Aside0.mk (And.intro k9' k9);replace HX:=Aside0.mk (And.intro HX.out.1 (And.intro HX.out.2.1 (Kd.C_below HX.out.2.2 hb)));replace HY:=Aside0.mk (And.intro HY.out.1 (And.intro HY.out.2.1 (Kd.C_below HY.out.2.2 hb)));replace BF:=Aside0.mk (blk_below BF.out hb);replace HB:=Aside0.mk (below_step HB.out hb);clear hb hr k6 k6' k9 k9' hb8;have W9:w9=w9:=rfl;have cx0:=(blk_cell (blk_alloc X1.out (.cells (r'.1.cells N6 n6 N9 n9) 30)) 0).trans rfl;have cx1:=(blk_cell (blk_alloc X1.out (.cells (r'.1.cells N6 n6 N9 n9) 30)) 1).trans rfl;have cx2:=(blk_cell (blk_alloc X1.out (.cells (r'.1.cells N6 n6 N9 n9) 30)) 2).trans rfl;have cx3:=(blk_cell (blk_alloc X1.out (.cells (r'.1.cells N6 n6 N9 n9) 30)) 3).trans rfl;have cx4:=(blk_cell (blk_alloc X1.out (.cells (r'.1.cells N6 n6 N9 n9) 30)) 4).trans rfl;have cx5:=(blk_cell (blk_alloc X1.out (.cells (r'.1.cells N6 n6 N9 n9) 30)) 5).trans rfl;have cx6:=(blk_cell (blk_alloc X1.out (.cells (r'.1.cells N6 n6 N9 n9) 30)) 6).trans rfl;have cx7:=(blk_cell (blk_alloc X1.out (.cells (r'.1.cells N6 n6 N9 n9) 30)) 7).trans rfl;have cx8:=(blk_cell (blk_alloc X1.out (.cells (r'.1.cells N6 n6 N9 n9) 30)) 8).trans rfl;have cx9:=(blk_cell (blk_alloc X1.out (.cells (r'.1.cells N6 n6 N9 n9) 30)) 9).trans rfl;have cx10:=(blk_cell (blk_alloc X1.out (.cells (r'.1.cells N6 n6 N9 n9) 30)) 10).trans rfl;have cx11:=(blk_cell (blk_alloc X1.out (.cells (r'.1.cells N6 n6 N9 n9) 30)) 11).trans rfl;have cx12:=(blk_cell (blk_alloc X1.out (.cells (r'.1.cells N6 n6 N9 n9) 30)) 12).trans rfl;have ca:=Kd.C_string (P:=Tryz.prog) (A:=Bx) (c:=bx) Tryz.underlying31 Tryz.underlying5 Tryz.underlying9 (Kd.C_alloc HX.out.2.2 (.cells (r'.1.cells N6 n6 N9 n9) 30));have cb:=Kd.C_string (P:=Tryz.prog) (A:=By) (c:=by_) Tryz.underlying31 Tryz.underlying5 Tryz.underlying9 (Kd.C_alloc HY.out.2.2 (.cells (r'.1.cells N6 n6 N9 n9) 30)))
    | ((with_reducible refine gate_callee (f:=11) rfl ?_);(try (refine gate_guard (by rfl) ?_;dsimp only));refine goesL_ (some 58) rfl rfl Tryz.func11 (by kernel_rfl) rfl #[.agg (r'.1.cells G6 e6 G9 e9),.agg (r'.1.cells N6 n6 N9 n9)] rfl lz ?_;have hb9:Below w9.heap.size w9 (w9.alloc (.cells (r'.1.cells N6 n6 N9 n9) 30)):=below_alloc (Below.refl _ _) _;(refine (riposteref24_SameFrame.calls k r'.1 r'.1 G6 e6 G9 e9 N6 n6 N9 n9 true true _ (Kd.C_below M6.out.2 hb9) M6.out.1 (Kd.C_below M9.out.2 hb9) M9.out.1 (Kd.C_below O6.out.2 hb9) O6.out.1 (Kd.C_below O9.out.2 hb9) O9.out.1 hsv hsv hpp hc0 hgg).mono ?_);rintro e w10 ⟨rfl,hb⟩;refine ⟨_,rfl,?_⟩;have sf:((r'.1.dst == r'.1.dst) && sameF r'.1 r'.1 true true)=true:=(by simp [sameF]);rw [sf];replace hb:=below_step hb9 hb;replace BF:=Aside0.mk (blk_below BF.out hb);replace HB:=Aside0.mk (below_step HB.out hb);clear hb hb9 sf)
    | ((with_reducible refine gate_callee (f:=5) rfl ?_);(try (refine gate_guard (by rfl) ?_;dsimp only));refine goesL_ (some 66) rfl rfl Tryz.func5 (by kernel_rfl) rfl #[] rfl lz ?_;(with_reducible refine (AW.out _ HB.out).mono ?_);rintro e w' ⟨rfl,hb⟩;refine ⟨_,rfl,?_⟩;have HF:=Aside0.mk (B0.step HB.out hb);clear hb))
  all_goals go_ret
  all_goals exact ⟨rfl,HF.out⟩
end Go.Proofs.YtmcfpcgpjppfkaaGreatDoor.PB
namespace Go.Proofs.YtmcfpcgpjppfkaaGreatDoor.PB
open Go Go.ChangeShapes Go.WideShapes Go.RowKit Go.Deep Go.Proofs.YtmcfpcgpjppfkaaGreatDoorW.PrintWords
theorem cells30:Tryz.prog.cellsOf 30=13:=by kernel_rfl
theorem cells26:Tryz.prog.cellsOf 26=6:=by kernel_rfl
theorem cells28:Tryz.prog.cellsOf 28=4:=by kernel_rfl
theorem cells113:Tryz.prog.cellsOf 113=3:=by kernel_rfl
theorem cells23:Tryz.prog.cellsOf 23=2:=by kernel_rfl
theorem cells24:Tryz.prog.cellsOf 24=1:=by kernel_rfl
theorem cells5:Tryz.prog.cellsOf 5=1:=by kernel_rfl
theorem cells4:Tryz.prog.cellsOf 4=1:=by kernel_rfl
theorem cells3:Tryz.prog.cellsOf 3=1:=by kernel_rfl
theorem bytes113:Tryz.prog.bytesOf 113=24:=by kernel_rfl
theorem bytes5:Tryz.prog.bytesOf 5=1:=by kernel_rfl
set_option maxRecDepth 100000
instance:Inhabited S113:=⟨z113⟩
section
variable {H:Type} {enc:TypeId × Value→H} {W:World}
theorem byte_of {x:Int} (h:(Lit.int .u8 x).wf=true):0≤x∧x≤255:=by
  simp [Lit.wf] at h
  first | omega | exact h | (simp_all;omega)
theorem open_bytes {n:Nat} {cs:List Value} {x:DataW H × List MemPlace} (h:DataW.trod enc Tryz.prog W 0 (fun _=>true) true n 31 cs=some x) :
    ∃ A len cap,cs=[.slice A len cap] ∧ ∃ l:List Int,len=l.length∧Kd.C (Kd.int .u8) W A l.length l∧Bt l∧l.length≤cap:=by
  rcases open_ints Tryz.underlying31 Tryz.underlying5 cells5 h with ⟨rfl,_⟩ | ⟨a,len,cap,zs,rfl,_,hl,hm,hz,_,hcell,hwz⟩
  · obtain ⟨l,h1,h2,h3,h4,h5⟩:=ReadsInt.ofRowC (k:=.u8) (w:=W) (a:=none) (len:=0) (cap:=0) (zs:=[]) (.inl ⟨rfl,rfl,rfl,rfl⟩)
    exact ⟨none,0,0,rfl,l,h1,Kd.C_of_reads h2,fun x hx=>byte_of (h4 x hx),h5⟩
  · obtain ⟨l,h1,h2,h3,h4,h5⟩:=ReadsInt.ofRowC (k:=.u8) (w:=W) (a:=some a) (len:=len) (cap:=cap) (zs:=zs) (.inr ⟨a,rfl,hl,hm,by simpa using hz,hcell,hwz⟩)
    exact ⟨some a,len,cap,rfl,l,h1,Kd.C_of_reads h2,fun x hx=>byte_of (h4 x hx),h5⟩
theorem open_two {P:Program} {base:Nat} {spare:Nat→Bool} {held:Bool} {t:TypeId} {f0 f1:Field} {fuel:Nat} {cs:List Value} {x:DataW H × List MemPlace} (ht:P.underlying t=some (.struct #[f0,f1])) (h:DataW.trod enc P W base spare held fuel t cs=some x) :
    ∃ y0 y1 n,cs.length=P.cellsOf t∧DataW.trod enc P W base spare held n f0.type ((cs.drop f0.offset).take (P.cellsOf f0.type))=some y0 ∧
      DataW.trod enc P W base spare held n f1.type ((cs.drop f1.offset).take (P.cellsOf f1.type))=some y1:=by
  obtain ⟨xs,n,_,rfl,hl,hlen,hf⟩:=DataW.trod_struct ht h
  match xs,hlen with
  | [y0,y1],_=>exact ⟨y0,y1,n,hl,by simpa using hf 0 f0 rfl,by simpa using hf 1 f1 rfl⟩
theorem open_three {P:Program} {base:Nat} {spare:Nat→Bool} {held:Bool} {t:TypeId} {f0 f1 f2:Field} {fuel:Nat} {cs:List Value} {x:DataW H × List MemPlace} (ht:P.underlying t=some (.struct #[f0,f1,f2])) (h:DataW.trod enc P W base spare held fuel t cs=some x) :
    ∃ y0 y1 y2 n,x.1=.agg [y0.1,y1.1,y2.1]∧cs.length=P.cellsOf t∧DataW.trod enc P W base spare held n f0.type ((cs.drop f0.offset).take (P.cellsOf f0.type))=some y0 ∧
      DataW.trod enc P W base spare held n f1.type ((cs.drop f1.offset).take (P.cellsOf f1.type))=some y1∧DataW.trod enc P W base spare held n f2.type ((cs.drop f2.offset).take (P.cellsOf f2.type))=some y2:=by
  obtain ⟨xs,n,_,rfl,hl,hlen,hf⟩:=DataW.trod_struct ht h
  match xs,hlen with
  | [y0,y1,y2],_=>exact ⟨y0,y1,y2,n,rfl,hl,by simpa using hf 0 f0 rfl,by simpa using hf 1 f1 rfl,by simpa using hf 2 f2 rfl⟩
theorem open_five {P:Program} {base:Nat} {spare:Nat→Bool} {held:Bool} {t:TypeId} {f0 f1 f2 f3 f4:Field} {fuel:Nat} {cs:List Value} {x:DataW H × List MemPlace} (ht:P.underlying t=some (.struct #[f0,f1,f2,f3,f4])) (h:DataW.trod enc P W base spare held fuel t cs=some x) :
    ∃ y0 y1 y2 y3 y4 n,x.1=.agg [y0.1,y1.1,y2.1,y3.1,y4.1]∧cs.length=P.cellsOf t∧DataW.trod enc P W base spare held n f0.type ((cs.drop f0.offset).take (P.cellsOf f0.type))=some y0 ∧
      DataW.trod enc P W base spare held n f1.type ((cs.drop f1.offset).take (P.cellsOf f1.type))=some y1∧DataW.trod enc P W base spare held n f2.type ((cs.drop f2.offset).take (P.cellsOf f2.type))=some y2 ∧
      DataW.trod enc P W base spare held n f3.type ((cs.drop f3.offset).take (P.cellsOf f3.type))=some y3∧DataW.trod enc P W base spare held n f4.type ((cs.drop f4.offset).take (P.cellsOf f4.type))=some y4:=by
  obtain ⟨xs,n,_,rfl,hl,hlen,hf⟩:=DataW.trod_struct ht h
  match xs,hlen with
  | [y0,y1,y2,y3,y4],_=>exact ⟨y0,y1,y2,y3,y4,n,rfl,hl,by simpa using hf 0 f0 rfl,by simpa using hf 1 f1 rfl,by simpa using hf 2 f2 rfl,by simpa using hf 3 f3 rfl,by simpa using hf 4 f4 rfl⟩
theorem open_hop {n:Nat} {cs:List Value} {x:DataW H × List MemPlace} (h:DataW.trod enc Tryz.prog W 0 (fun _=>true) true n 113 cs=some x) :
    ∃ e:S113,cs.length=3∧k113.K W e cs:=by
  obtain ⟨y0,y1,y2,m,_,hl,t0,t1,t2⟩:=open_three Tryz.underlying113 h
  rw [cells113] at hl
  match cs,hl with
  | [c0,c1,c2],_ =>
    simp only [cells3,List.drop,List.take] at t0 t1 t2
    obtain ⟨a,e0,_,w0⟩:=DataW.trod_int Tryz.underlying3 t0
    obtain ⟨b,e1,_,w1⟩:=DataW.trod_int Tryz.underlying3 t1
    obtain ⟨c,e2,_,w2⟩:=DataW.trod_int Tryz.underlying3 t2
    simp only [List.cons.injEq,and_true] at e0 e1 e2
    subst e0 e1 e2
    exact ⟨⟨a,b,c⟩,rfl,k72_mk W ⟨a,b,c⟩⟩
theorem open_hops {n:Nat} {cs:List Value} {x:DataW H × List MemPlace} (h:DataW.trod enc Tryz.prog W 0 (fun _=>true) true n 24 cs=some x) :
    ∃ A len cap,cs=[.slice A len cap] ∧ ∃ l:List S113,len=l.length∧Kd.C k113 W A l.length l∧l.length≤cap∧((∀ n ∈ x.1.weights Tryz.prog 24,n≤reachBytes)→l.length*24≤reachBytes):=by
  rcases open_slice Tryz.underlying24 h with ⟨rfl,_⟩ | ⟨a,len,cap,m,n,D,Pl,rfl,_,hl,hm,hmm,rfl,hx⟩
  · exact ⟨none,0,0,rfl,[],rfl,Kd.C_nil _ _,Nat.zero_le _,fun _=>by simp⟩
  · have hle:len≤m:=by rw [hmm];simpa using hl
    have each : ∀ i,i<len → ∃ e:S113,∃ c,c.length=3∧k113.K W e c ∧ ∀ j u,c[j]?=some u→W.cell? (a.add (i*3+j))=some u:=by
      intro i hi
      obtain ⟨cs',h1,h2⟩:=hx i (by omega)
      rw [cells113] at h1
      obtain ⟨e,h3,hK⟩:=open_hop h2
      refine ⟨e,cs',h3,hK,fun j u hu => ?_⟩
      obtain ⟨_,_,h4⟩:=World.cells?_some h1
      have hj:j<3:=by rw [← h3];exact (List.getElem?_eq_some_iff.1 hu).1
      rw [← Deep.add_add,h4 j hj]
      exact hu
    obtain ⟨f,hf'⟩:=choose_lt each
    refine ⟨some a,len,cap,rfl,(List.range len).map f,by simp,⟨rfl,?_,fun _=>⟨a,rfl,fun j p hp => ?_⟩⟩,by simpa using hl,fun hw => ?_⟩
    · have:maxLen≤9223372036854775807:=by decide
      simp
      omega
    · obtain ⟨hj,hp⟩:=List.getElem?_eq_some_iff.1 hp
      simp at hj hp
      subst hp
      exact hf' j hj
    · have:=hw _ (by simp only [DataW.weights,Tryz.underlying24];exact List.mem_cons_self)
      rw [bytes113] at this
      simp only [List.length_map,List.length_range] at this ⊢
      exact Nat.le_trans (Nat.mul_le_mul_right _ (by omega)) this
theorem open_place {n:Nat} {cs:List Value} {x:DataW H × List MemPlace} (h:DataW.trod enc Tryz.prog W 0 (fun _=>true) true n 23 cs=some x) : ∃ a b:Int,cs=[.int .i64 a,.int .i64 b]:=by
  obtain ⟨y0,y1,m,hl,t0,t1⟩:=open_two Tryz.underlying23 h
  rw [cells23] at hl
  match cs,hl with
  | [c0,c1],_ =>
    simp only [cells3,List.drop,List.take] at t0 t1
    obtain ⟨a,e0,_,_⟩:=DataW.trod_int Tryz.underlying3 t0
    obtain ⟨b,e1,_,_⟩:=DataW.trod_int Tryz.underlying3 t1
    simp only [List.cons.injEq,and_true] at e0 e1
    subst e0 e1
    exact ⟨a,b,rfl⟩
theorem mem_each {P:Program} {ts:List TypeId} {ds:List (DataW H)} {j:Nat} {t:TypeId} {d:DataW H} (h : ∀ n ∈ DataW.weightsEach P ts ds,n≤reachBytes) (ht:ts[j]?=some t) (hd:ds[j]?=some d) : ∀ n ∈ d.weights P t,n≤reachBytes :=
  fun n hn=>h n (DataW.weights_mem_each ht hd n hn)
theorem open_frame {cs:Array Value} {d:DataW H} {ps:List MemPlace} (h:DataW.Trod enc Tryz.prog W 0 (fun _=>true) true 30 (.agg cs) d ps) (hw : ∀ n ∈ d.weights Tryz.prog 30,n≤reachBytes) :
    ∃ (f:Fr) (A6:Option Addr) (c6:Nat) (A9:Option Addr) (c9:Nat),cs=f.cells A6 c6 A9 c9∧Kd.C k113 W A6 f.path.length f.path∧f.path.length≤c6∧Kd.C k113 W A9 f.gpath.length f.gpath∧f.gpath.length≤c9∧f.path.length*24≤reachBytes∧f.gpath.length*24≤reachBytes∧0≤f.kind∧f.kind≤255:=by
  obtain ⟨fuel,hf⟩:=h
  obtain ⟨y0,y1,y2,y3,y4,n,hd,hl,t0,t1,t2,t3,t4⟩:=open_five Tryz.underlying30 hf
  have hd:d=.agg [y0.1,y1.1,y2.1,y3.1,y4.1]:=hd
  subst hd
  have hw : ∀ n ∈ DataW.weightsEach Tryz.prog [3,26,28,4,3] [y0.1,y1.1,y2.1,y3.1,y4.1],n≤reachBytes:=by
    simpa only [DataW.weights,Tryz.underlying30,List.map_cons,List.map_nil] using hw
  have w1:=mem_each (j:=1) hw rfl rfl
  have w2:=mem_each (j:=2) hw rfl rfl
  rw [cells30] at hl
  have hcs:(Value.agg cs).cells.toList=cs.toList:=rfl
  rw [hcs] at hl t0 t1 t2 t3 t4
  obtain ⟨L⟩:=cs
  match L,hl with
  | [c0,c1,c2,c3,c4,c5,c6,c7,c8,c9,c10,c11,c12],_ =>
    simp only [cells3,cells26,cells28,cells4,List.drop,List.take] at t0 t1 t2 t3 t4
    obtain ⟨a0,e0,_,_⟩:=DataW.trod_int Tryz.underlying3 t0
    obtain ⟨a11,e11,_⟩:=DataW.trod_bool (by kernel_rfl) t3
    obtain ⟨a12,e12,_,_⟩:=DataW.trod_int Tryz.underlying3 t4
    obtain ⟨z0,z1,z2,z3,z4,m,hz,_,s0,s1,s2,s3,s4⟩:=open_five Tryz.underlying26 t1
    rw [hz] at w1
    have w1 : ∀ n ∈ DataW.weightsEach Tryz.prog [23,3,5,3,24] [z0.1,z1.1,z2.1,z3.1,z4.1],n≤reachBytes:=by
      simpa only [DataW.weights,Tryz.underlying26,List.map_cons,List.map_nil] using w1
    have w14:=mem_each (j:=4) w1 rfl rfl
    simp only [cells3,cells23,cells5,cells24,List.drop,List.take] at s0 s1 s2 s3 s4
    obtain ⟨p,q,ep⟩:=open_place s0
    obtain ⟨a3,e3,_,_⟩:=DataW.trod_int Tryz.underlying3 s1
    obtain ⟨a4,e4,_,k4⟩:=DataW.trod_int Tryz.underlying5 s2
    obtain ⟨a5,e5,_,_⟩:=DataW.trod_int Tryz.underlying3 s3
    obtain ⟨A6,l6,k6,e6,L6,rfl,C6,b6,g6⟩:=open_hops s4
    obtain ⟨u0,u1,u2,m2,hu,_,r0,r1,r2⟩:=open_three Tryz.underlying28 t2
    rw [hu] at w2
    have w2 : ∀ n ∈ DataW.weightsEach Tryz.prog [23,24,3] [u0.1,u1.1,u2.1],n≤reachBytes:=by
      simpa only [DataW.weights,Tryz.underlying28,List.map_cons,List.map_nil] using w2
    have w21:=mem_each (j:=1) w2 rfl rfl
    simp only [cells3,cells23,cells24,List.drop,List.take] at r0 r1 r2
    obtain ⟨p2,q2,ep2⟩:=open_place r0
    obtain ⟨A9,l9,k9,e9,L9,rfl,C9,b9,g9⟩:=open_hops r1
    obtain ⟨a10,e10,_,_⟩:=DataW.trod_int Tryz.underlying3 r2
    simp only [List.cons.injEq,and_true] at e0 e11 e12 ep e3 e4 e5 e6 ep2 e9 e10
    obtain ⟨rfl,rfl⟩:=ep
    obtain ⟨rfl,rfl⟩:=ep2
    subst e0 e11 e12 e3 e4 e5 e6 e9 e10
    have kb:=byte_of k4
    exact ⟨⟨a0,p,q,a3,a4,a5,L6,p2,q2,L9,a10,a11,a12⟩,A6,k6,A9,k9,rfl,C6,b6,C9,b9,g6 w14,g9 w21,kb.1,kb.2⟩
theorem open_row {a:Option Addr} {len cap:Nat} {d:DataW H} {ps:List MemPlace} (h:DataW.Trod enc Tryz.prog W 0 (fun _=>true) true 31 (.slice a len cap) d ps) :
    ∃ l:List Int,len=l.length∧Kd.C (Kd.int .u8) W a l.length l∧Bt l∧l.length≤cap:=by
  obtain ⟨fuel,hf⟩:=h
  obtain ⟨A,len',cap',hcs,l,h1,h2,h3,h4⟩:=open_bytes hf
  simp [Value.cells] at hcs
  obtain ⟨rfl,rfl,rfl⟩:=hcs
  exact ⟨l,h1,h2,h3,h4⟩
end
end Go.Proofs.YtmcfpcgpjppfkaaGreatDoor.PB
