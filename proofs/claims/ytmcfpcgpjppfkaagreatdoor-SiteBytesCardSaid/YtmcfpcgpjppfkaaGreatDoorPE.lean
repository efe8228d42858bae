/- Contracts of the writer of a frame and of site.Bytes. Conditions: those that the theorems state. -/
import Derived.Test.YtmcfpcgpjppfkaaGreatDoorPA
namespace Go.Proofs.YtmcfpcgpjppfkaaGreatDoor.PB
open Go.RowKit Go.Proofs.YtmcfpcgpjppfkaaGreatDoorW.PrintWords Go.Proofs.YtmcfpcgpjppfkaaGreatDoorW.PrintLast
set_option linter.unusedVariables false
set_option linter.unusedSimpArgs false
set_option maxHeartbeats 8000000 in
set_option maxRecDepth 100000 in
theorem site_writer_put.calls (g:Nat) (k n:Int) (bs:List Int) (bad:Bool) (m lo hi:Int) (w0 w:World) (hk:fieldOf k=some (m,lo,hi)) (hlen:bs.length≤100000000) (hI:IsW w0 w g bs bad) (hB:Below w0.heap.size w0 w) :
    Calls Tryz.prog 41 #[.pointer (some ⟨g,0,none⟩),.int .i64 k,.int .i64 n] w fun e w'=>e=.returned (.tuple #[])∧IsW w0 w' g (putF k n bs bad).1 (putF k n bs bad).2∧Below w0.heap.size w0 w'∧KeepT w w':=by
  obtain ⟨v,hbk,hge,hR⟩:=hI
  have hkv:fieldV k=some (.agg #[.int .i64 m,.int .i64 lo,.int .i64 hi]):=by rw [fieldV,hk];rfl
  have HB:=Aside0.mk hB
  have HK:=Aside0.mk (KeepT.refl w)
  have HBK:=Aside0.mk hbk
  have HR:=Aside0.mk hR
  clear hB hbk hR
  have hwi:site_within.f lo hi n=some (decide (lo≤n∧n≤hi)):=by
    unfold site_within.f;by_cases h1:n ≥ lo
    · have h1':lo≤n:=h1
      simp [h1,h1']
    · have h1':¬ lo≤n:=h1
      simp [h1']
  by_cases hin:lo≤n∧n≤hi
  · rw [decide_eq_true hin] at hwi
    by_cases hm:m > 1
    · have hmb:decide (m > 1)=true:=decide_eq_true hm
      obtain ⟨y1,hy1⟩ : ∃ y:List Int,y=bs ++ [(n / 256) % 256]:=⟨_,rfl⟩
      have LY1:=Aside0.mk (show y1.length=bs.length+1 by rw [hy1];simp)
      obtain ⟨y2,hy2⟩ : ∃ y:List Int,y=y1 ++ [n % 256]:=⟨_,rfl⟩
      have Y1:=Aside0.mk hy1
      have Y2:=Aside0.mk hy2
      clear hy1 hy2
      go_enter Tryz.func41,Tryz.ntmps41
      go_wp2_with (first
    | ((with_reducible refine gate_callee (f:=44) rfl ?_);refine goesL_ (some 7) rfl rfl Tryz.func44 (by kernel_rfl) rfl #[] rfl lz ?_;(with_reducible refine (site_fields.calls _).mono ?_);rintro e w5 ⟨r,es,c,rfl,hm,hf,hb⟩;refine ⟨_,rfl,?_⟩;have HM:=Aside0.mk hm;have HF:=Aside0.mk hf;replace HBK:=Aside0.mk ((hb.block _ (blk_lt HBK.out)).trans HBK.out);replace HR:=Aside0.mk (Kd.R_below HR.out hb);replace HK:=Aside0.mk (KeepT.below HK.out hb);replace HB:=Aside0.mk (below_then HB.out HB.out.size hb);clear hb hm hf)
    | ((with_reducible refine gate_dst (N:=9) rfl ?_);refine Kd.event_run rfl (v:=.agg #[.int .i64 m,.int .i64 lo,.int .i64 hi]) (by show Sem.run _ (Bind.bind (Instr.lookup 116 (.map (some _)) (.int .i64 k) false) _) _=_;rw [Sem.run_bind,lookup_run HM.out HF.out hkv];rfl) ?_)
    | ((with_reducible refine gate_callee (f:=53) rfl ?_);refine goesL_ (some 15) rfl rfl Tryz.func53 (by kernel_rfl) rfl #[.int .i64 lo,.int .i64 hi,.int .i64 n] rfl lz ?_;(with_reducible refine (site_within.calls lo hi n true _ hwi).mono ?_);rintro e w6 ⟨rfl,hb⟩;refine ⟨_,rfl,?_⟩;have hbA:Below w5.heap.size w5 w6:=below_then (below_alloc (Below.refl _ _) _) (below_alloc (Below.refl _ _) _).size hb.below;replace HBK:=Aside0.mk ((hbA.block _ (blk_lt HBK.out)).trans HBK.out);replace HR:=Aside0.mk (Kd.R_below HR.out hbA);replace HK:=Aside0.mk (KeepT.below HK.out hbA);replace HB:=Aside0.mk (below_then HB.out HB.out.size hbA);clear hbA;have hbx:=Aside0.mk (blk_below (blk_new _ _) hb.below);have hcx:w6.cell? ⟨w5.heap.size,0,none⟩=some (.int .i64 m):=(blk_cell hbx.out 0).trans rfl;have hcz:=(blk_cell HBK.out 0).trans rfl;have hfz:=blk_frozen HBK.out 0;clear hb)
    | ((with_reducible refine gate_dst (N:=32) rfl ?_);refine Kd.R_append (Kd.int .u8) w0.heap.size rfl (.tmp 27) (.tmp 31) 31 5 (.int .u8 0) 1 rfl Tryz.underlying31 info5 rfl (by decide) (by decide) v bs ((n / 256) % 256) [.int .u8 ((n / 256) % 256)] (fun k=>k≠g) (fun _=>False) rfl (by first | (go_simp;done) | (go_simp;rfl)) rfl (fun _ hk=>hk.elim) (fun k hk=>Kd.freshB HBK.out k hk) HR.out HB.out HB.out.size (by (try simp only [List.length_append,List.length_cons,List.length_nil]);omega) ?_;intro v1 w7 ho hb hg hat;rw [← Y1.out] at ho;replace HBK:=Aside0.mk (blk_grown HBK.out hg (Kd.R_away HR.out (fun _ hk=>hk)));replace HK:=Aside0.mk (KeepT.grown HK.out hg (Kd.R_typed HR.out));replace HB:=Aside0.mk hb;replace HR:=Aside0.mk ho;obtain ⟨A_v1,c_v1,rfl⟩:=Kd.R_slice ho;have hcz2:=(blk_cell HBK.out 0).trans rfl;have hfz2:=blk_frozen HBK.out 0;clear ho hb hg hat)
    | ((with_reducible refine gate_dst (N:=43) rfl ?_);have HKS:=Aside0.mk (KeepT.set (k:=0) HK.out HBK.out (.inr rfl) (.slice A_v1 y1.length c_v1));replace HBK:Aside0 ((World.setCell w7 ⟨g,0,none⟩ (.slice A_v1 y1.length c_v1)).heap[g]?=some (.cells #[.slice A_v1 y1.length c_v1,.bool bad] 70 (0,0))):=Aside0.mk (by simpa using blk_set HBK.out 0 _);replace HR:=Aside0.mk (Kd.R_far (p:=⟨g,0,none⟩) HR.out (fun k hk=>hk) (.slice A_v1 y1.length c_v1));replace HB:=Aside0.mk (below_set (j:=0) (v:=.slice A_v1 y1.length c_v1) HB.out hge);refine Kd.R_append (Kd.int .u8) w0.heap.size rfl (.tmp 39) (.tmp 42) 31 5 (.int .u8 0) 1 rfl Tryz.underlying31 info5 rfl (by decide) (by decide) (.slice A_v1 _ c_v1) y1 (n % 256) [.int .u8 (n % 256)] (fun k=>k≠g) (fun _=>False) rfl (by first | (go_simp;done) | (go_simp;rfl)) rfl (fun _ hk=>hk.elim) (fun k hk=>Kd.freshB HBK.out k hk) HR.out HB.out HB.out.size (by (try simp only [List.length_append,List.length_cons,List.length_nil]);have:=LY1.out;omega) ?_;intro v2 w8 ho hb hg hat;rw [← Y2.out] at ho;replace HBK:=Aside0.mk (blk_grown HBK.out hg (Kd.R_away HR.out (fun _ hk=>hk)));replace HK:=Aside0.mk (KeepT.grown HKS.out hg (Kd.R_typed HR.out));replace HB:=Aside0.mk hb;replace HR:=Aside0.mk ho;obtain ⟨A_v2,c_v2,rfl⟩:=Kd.R_slice ho;have hcz3:=(blk_cell HBK.out 0).trans rfl;have hfz3:=blk_frozen HBK.out 0;clear ho hb hg hat)
    )
      refine bodyPost_end (results_none rfl _ _ _) rfl ?_
      have hp:putF k n bs bad=(y2,bad):=by unfold putF;rw [hk];simp only;rw [if_pos hin,if_pos hm,Y2.out,Y1.out]
      rw [hp]
      exact ⟨rfl,⟨_,(by simpa using blk_set HBK.out 0 (.slice A_v2 y2.length c_v2)),hge,Kd.R_far HR.out (fun k hk=>hk) _⟩,below_set HB.out hge,KeepT.set HK.out HBK.out (.inr rfl) _⟩
    · have hmb:decide (m > 1)=false:=decide_eq_false hm
      obtain ⟨y2,hy2⟩ : ∃ y:List Int,y=bs ++ [n % 256]:=⟨_,rfl⟩
      have Y2:=Aside0.mk hy2
      clear hy2
      go_enter Tryz.func41,Tryz.ntmps41
      go_wp2_with (first
    | ((with_reducible refine gate_callee (f:=44) rfl ?_);refine goesL_ (some 7) rfl rfl Tryz.func44 (by kernel_rfl) rfl #[] rfl lz ?_;(with_reducible refine (site_fields.calls _).mono ?_);rintro e w5 ⟨r,es,c,rfl,hm,hf,hb⟩;refine ⟨_,rfl,?_⟩;have HM:=Aside0.mk hm;have HF:=Aside0.mk hf;replace HBK:=Aside0.mk ((hb.block _ (blk_lt HBK.out)).trans HBK.out);replace HR:=Aside0.mk (Kd.R_below HR.out hb);replace HK:=Aside0.mk (KeepT.below HK.out hb);replace HB:=Aside0.mk (below_then HB.out HB.out.size hb);clear hb hm hf)
    | ((with_reducible refine gate_dst (N:=9) rfl ?_);refine Kd.event_run rfl (v:=.agg #[.int .i64 m,.int .i64 lo,.int .i64 hi]) (by show Sem.run _ (Bind.bind (Instr.lookup 116 (.map (some _)) (.int .i64 k) false) _) _=_;rw [Sem.run_bind,lookup_run HM.out HF.out hkv];rfl) ?_)
    | ((with_reducible refine gate_callee (f:=53) rfl ?_);refine goesL_ (some 15) rfl rfl Tryz.func53 (by kernel_rfl) rfl #[.int .i64 lo,.int .i64 hi,.int .i64 n] rfl lz ?_;(with_reducible refine (site_within.calls lo hi n true _ hwi).mono ?_);rintro e w6 ⟨rfl,hb⟩;refine ⟨_,rfl,?_⟩;have hbA:Below w5.heap.size w5 w6:=below_then (below_alloc (Below.refl _ _) _) (below_alloc (Below.refl _ _) _).size hb.below;replace HBK:=Aside0.mk ((hbA.block _ (blk_lt HBK.out)).trans HBK.out);replace HR:=Aside0.mk (Kd.R_below HR.out hbA);replace HK:=Aside0.mk (KeepT.below HK.out hbA);replace HB:=Aside0.mk (below_then HB.out HB.out.size hbA);clear hbA;have hbx:=Aside0.mk (blk_below (blk_new _ _) hb.below);have hcx:w6.cell? ⟨w5.heap.size,0,none⟩=some (.int .i64 m):=(blk_cell hbx.out 0).trans rfl;have hcz:=(blk_cell HBK.out 0).trans rfl;have hfz:=blk_frozen HBK.out 0;clear hb)
    | ((with_reducible refine gate_dst (N:=43) rfl ?_);refine Kd.R_append (Kd.int .u8) w0.heap.size rfl (.tmp 39) (.tmp 42) 31 5 (.int .u8 0) 1 rfl Tryz.underlying31 info5 rfl (by decide) (by decide) v bs (n % 256) [.int .u8 (n % 256)] (fun k=>k≠g) (fun _=>False) rfl (by first | (go_simp;done) | (go_simp;rfl)) rfl (fun _ hk=>hk.elim) (fun k hk=>Kd.freshB HBK.out k hk) HR.out HB.out HB.out.size (by (try simp only [List.length_append,List.length_cons,List.length_nil]);omega) ?_;intro v2 w8 ho hb hg hat;rw [← Y2.out] at ho;replace HBK:=Aside0.mk (blk_grown HBK.out hg (Kd.R_away HR.out (fun _ hk=>hk)));replace HK:=Aside0.mk (KeepT.grown HK.out hg (Kd.R_typed HR.out));replace HB:=Aside0.mk hb;replace HR:=Aside0.mk ho;obtain ⟨A_v2,c_v2,rfl⟩:=Kd.R_slice ho;have hcz3:=(blk_cell HBK.out 0).trans rfl;have hfz3:=blk_frozen HBK.out 0;clear ho hb hg hat)
    )
      refine bodyPost_end (results_none rfl _ _ _) rfl ?_
      have hp:putF k n bs bad=(y2,bad):=by unfold putF;rw [hk];simp only;rw [if_pos hin,if_neg (show ¬ m > 1 by omega),Y2.out]
      rw [hp]
      exact ⟨rfl,⟨_,(by simpa using blk_set HBK.out 0 (.slice A_v2 y2.length c_v2)),hge,Kd.R_far HR.out (fun k hk=>hk) _⟩,below_set HB.out hge,KeepT.set HK.out HBK.out (.inr rfl) _⟩
  rw [decide_eq_false hin] at hwi
  go_enter Tryz.func41,Tryz.ntmps41
  go_wp2_with (first
    | ((with_reducible refine gate_callee (f:=44) rfl ?_);refine goesL_ (some 7) rfl rfl Tryz.func44 (by kernel_rfl) rfl #[] rfl lz ?_;(with_reducible refine (site_fields.calls _).mono ?_);rintro e w5 ⟨r,es,c,rfl,hm,hf,hb⟩;refine ⟨_,rfl,?_⟩;have HM:=Aside0.mk hm;have HF:=Aside0.mk hf;replace HBK:=Aside0.mk ((hb.block _ (blk_lt HBK.out)).trans HBK.out);replace HR:=Aside0.mk (Kd.R_below HR.out hb);replace HK:=Aside0.mk (KeepT.below HK.out hb);replace HB:=Aside0.mk (below_then HB.out HB.out.size hb);clear hb hm hf)
    | ((with_reducible refine gate_dst (N:=9) rfl ?_);refine Kd.event_run rfl (v:=.agg #[.int .i64 m,.int .i64 lo,.int .i64 hi]) (by show Sem.run _ (Bind.bind (Instr.lookup 116 (.map (some _)) (.int .i64 k) false) _) _=_;rw [Sem.run_bind,lookup_run HM.out HF.out hkv];rfl) ?_)
    | ((with_reducible refine gate_callee (f:=53) rfl ?_);refine goesL_ (some 15) rfl rfl Tryz.func53 (by kernel_rfl) rfl #[.int .i64 lo,.int .i64 hi,.int .i64 n] rfl lz ?_;(with_reducible refine (site_within.calls lo hi n false _ hwi).mono ?_);rintro e w6 ⟨rfl,hb⟩;refine ⟨_,rfl,?_⟩;have hbA:Below w5.heap.size w5 w6:=below_then (below_alloc (Below.refl _ _) _) (below_alloc (Below.refl _ _) _).size hb.below;replace HBK:=Aside0.mk ((hbA.block _ (blk_lt HBK.out)).trans HBK.out);replace HR:=Aside0.mk (Kd.R_below HR.out hbA);replace HK:=Aside0.mk (KeepT.below HK.out hbA);replace HB:=Aside0.mk (below_then HB.out HB.out.size hbA);clear hbA;have hcz:=(blk_cell HBK.out 1).trans rfl;have hfz:=blk_frozen HBK.out 1;clear hb)
  )
  (try simp only [Exit.inBlock,Exit.then]);refine bodyPost_ret (results_none rfl _ _ _) rfl ?_
  have hp:putF k n bs bad=(bs,true):=by unfold putF;rw [hk];simp only;rw [if_neg hin]
  rw [hp]
  exact ⟨rfl,⟨v,(by simpa using blk_set HBK.out 1 _),hge,Kd.R_far HR.out (fun k hk=>hk) _⟩,below_set HB.out hge,KeepT.set HK.out HBK.out (.inr rfl) _⟩
end Go.Proofs.YtmcfpcgpjppfkaaGreatDoor.PB
namespace Go.Proofs.YtmcfpcgpjppfkaaGreatDoor.PB
open Go.RowKit Go.Proofs.YtmcfpcgpjppfkaaGreatDoorW.PrintWords Go.Proofs.YtmcfpcgpjppfkaaGreatDoorW.PrintLast
set_option linter.unusedVariables false
set_option linter.unusedSimpArgs false
theorem IsW.below {w0 W W1:World} {g:Nat} {bs:List Int} {bad:Bool} (h:IsW w0 W g bs bad) (hw:Below W.heap.size W W1):IsW w0 W1 g bs bad:=by
  obtain ⟨v,hb,hg,hR⟩:=h;exact ⟨v,(hw.block g (blk_lt hb)).trans hb,hg,Kd.R_below hR hw⟩
theorem IsW.alloc {w0 W:World} {g:Nat} {bs:List Int} {bad:Bool} (h:IsW w0 W g bs bad) (o:Obj):IsW w0 (W.alloc o) g bs bad:=h.below (below_alloc (Below.refl _ _) o)
theorem IsW.ge {w0 W:World} {g:Nat} {bs:List Int} {bad:Bool} (h:IsW w0 W g bs bad):w0.heap.size≤g:=by
  obtain ⟨v,hb,hg,hR⟩:=h;exact hg
theorem KeepT.alloc {w W:World} (h:KeepT w W) (o:Obj):KeepT w (W.alloc o):=h.below (below_alloc (Below.refl _ _) o)
def hopsW:List S113→List Int→Bool→List Int × Bool
  | [],bs,bad=>(bs,bad)
  | h :: r,bs,bad =>
    let p:=putF 2 h.f0 bs bad
    let q:=putF 6 h.f2 p.1 p.2
    let s:=putF 5 h.f1 q.1 q.2
    if s.2 then s else hopsW r s.1 s.2
def pathW (l:List S113) (bs:List Int) (bad:Bool):List Int × Bool :=
  let p:=putF 7 l.length bs bad
  hopsW l p.1 p.2
theorem putF_len (k n:Int) (bs:List Int) (bad:Bool):(putF k n bs bad).1.length≤bs.length+2:=by
  unfold putF
  split
  · simp
  · split
    · split <;> simp
    · simp
theorem hopsW_len : ∀ (l:List S113) (bs:List Int) (bad:Bool),(hopsW l bs bad).1.length≤bs.length+6*l.length
  | [],bs,bad=>by simp [hopsW]
  | h :: r,bs,bad=>by
    have h1:=putF_len 2 h.f0 bs bad
    have h2:=putF_len 6 h.f2 (putF 2 h.f0 bs bad).1 (putF 2 h.f0 bs bad).2
    have h3:=putF_len 5 h.f1 (putF 6 h.f2 (putF 2 h.f0 bs bad).1 (putF 2 h.f0 bs bad).2).1 (putF 6 h.f2 (putF 2 h.f0 bs bad).1 (putF 2 h.f0 bs bad).2).2
    simp only [hopsW,List.length_cons]
    split
    · omega
    · have:=hopsW_len r (putF 5 h.f1 (putF 6 h.f2 (putF 2 h.f0 bs bad).1 (putF 2 h.f0 bs bad).2).1 (putF 6 h.f2 (putF 2 h.f0 bs bad).1 (putF 2 h.f0 bs bad).2).2).1 (putF 5 h.f1 (putF 6 h.f2 (putF 2 h.f0 bs bad).1 (putF 2 h.f0 bs bad).2).1 (putF 6 h.f2 (putF 2 h.f0 bs bad).1 (putF 2 h.f0 bs bad).2).2).2
      omega
theorem pathW_len (l:List S113) (bs:List Int) (bad:Bool):(pathW l bs bad).1.length≤bs.length+2+6*l.length:=by
  have h1:=putF_len 7 l.length bs bad
  have h2:=hopsW_len l (putF 7 l.length bs bad).1 (putF 7 l.length bs bad).2
  simp only [pathW];omega
set_option maxHeartbeats 8000000 in
set_option maxRecDepth 100000 in
theorem site_writer_path.calls (g:Nat) (A:Option Addr) (c:Nat) (l:List S113) (bs:List Int) (bad:Bool) (w0 w:World) (hC:Kd.C k113 w0 A l.length l) (hl:l.length≤1000) (hlen:bs.length≤1000000) (hI:IsW w0 w g bs bad) (hB:Below w0.heap.size w0 w) :
    Calls Tryz.prog 42 #[.pointer (some ⟨g,0,none⟩),.slice A l.length c] w fun e w'=>e=.returned (.tuple #[])∧IsW w0 w' g (pathW l bs bad).1 (pathW l bs bad).2∧Below w0.heap.size w0 w'∧KeepT w w':=by
  have HC:=Aside0.mk hC
  have HB:=Aside0.mk hB
  have HI:=Aside0.mk hI
  have HK:=Aside0.mk (KeepT.refl w)
  clear hC hB hI
  have hu71:=Tryz.underlying113
  have hpl:=putF_len 7 l.length bs bad
  have hfin:pathW l bs bad=hopsW l (putF 7 l.length bs bad).1 (putF 7 l.length bs bad).2:=rfl
  obtain ⟨p,hp⟩ : ∃ p,p=putF 7 l.length bs bad:=⟨_,rfl⟩
  rw [hfin,← hp]
  rw [← hp] at hpl
  obtain ⟨R,hR⟩ : ∃ R,R=hopsW l p.1 p.2:=⟨_,rfl⟩
  rw [← hR]
  have HP:=Aside0.mk hp
  have HR:=Aside0.mk hR
  have HL:=Aside0.mk hpl
  have HN:=Aside0.mk hlen
  have HM:=Aside0.mk hl
  clear hp hR hfin hpl hlen hl
  go_enter Tryz.func42,Tryz.ntmps42
  go_wp2_with (first
    | ((with_reducible refine gate_callee (f:=41) rfl ?_);refine goesL_ (some 9) rfl rfl Tryz.func41 (by kernel_rfl) rfl #[.pointer (some ⟨g,0,none⟩),.int .i64 7,.int .i64 (l.length:Int)] rfl lz ?_;(with_reducible refine (site_writer_put.calls g 7 _ bs bad 1 0 200 w0 _ rfl (by have:=HN.out;omega) ?side1 ?side2).mono ?_);(case side1=>exact HI.out);(case side2=>exact HB.out);rintro e w3 ⟨rfl,hi,hb,hk⟩;refine ⟨_,rfl,?_⟩;rw [← HP.out] at hi;replace HI:=Aside0.mk hi;replace HB:=Aside0.mk hb;replace HK:=Aside0.mk (KeepT.trans HK.out hk);clear hi hb hk))
  go_loopg [12] l.length (fun kq v12 w' => ∃ (i:Nat) (cs:List Int) (cb:Bool),v12=.int .i64 (i:Int)∧Aside0 (kq+i=l.length)∧Aside0 (hopsW (l.drop i) cs cb=R)∧Aside0 (cs.length≤1000002+6*i)∧Aside0 (IsW w0 w' g cs cb)∧Aside0 (Below w0.heap.size w0 w')∧Aside0 (KeepT w w'))
  case atStart=>exact ⟨0,p.1,p.2,rfl,⟨rfl⟩,⟨by rw [List.drop_zero];exact HR.out.symm⟩,⟨by have:=HL.out;have:=HN.out;omega⟩,HI,HB,HK⟩
  case round =>
    clear HI HB HK HL HR HP
    obtain ⟨i,cs,cb,rfl,HA,HH,HL,HI,HB,HK⟩:=hrel
    by_cases hi:i<l.length
    · obtain ⟨k1, rfl⟩ : ∃ k1, gk = k1 + 1 := ⟨gk - 1,by have:=HA.out;omega⟩
      have hib:decide ((i:Int)<(l.length:Int))=true:=decide_eq_true (by omega)
      have p1:0≤(i:Int):=by omega
      have q1:(i:Int)<(l.length:Int):=by omega
      obtain ⟨ad,e1,hx0,hx1,hx2⟩:=at_T113 HC.out (i:Int) p1 q1
      cases e1
      replace hx0:=(HB.out.cell (World.block_lt_of_cell? w0 _ hx0)).trans hx0
      replace hx1:=(HB.out.cell (World.block_lt_of_cell? w0 _ hx1)).trans hx1
      replace hx2:=(HB.out.cell (World.block_lt_of_cell? w0 _ hx2)).trans hx2
      obtain ⟨h,hh⟩ : ∃ h,h=rd_T113 l (i:Int):=⟨_,rfl⟩
      rw [← hh,show ((i:Int)).toNat=i from rfl] at hx0 hx1 hx2
      have hd:l.drop i=h :: l.drop (i+1):=by
        rw [hh,List.drop_eq_getElem_cons hi];congr 1;simp [rd_T113,List.getD_eq_getElem?_getD,hi]
      have HD:=Aside0.mk hd
      clear hd hh
      replace p1:=eq_true p1
      replace q1:=eq_true q1
      obtain ⟨a2,ha2⟩ : ∃ a,a=putF 2 h.f0 cs cb:=⟨_,rfl⟩
      obtain ⟨a6,ha6⟩ : ∃ a,a=putF 6 h.f2 a2.1 a2.2:=⟨_,rfl⟩
      obtain ⟨a5,ha5⟩ : ∃ a,a=putF 5 h.f1 a6.1 a6.2:=⟨_,rfl⟩
      have L2:=Aside0.mk (show a2.1.length≤cs.length+2 by rw [ha2];exact putF_len _ _ _ _)
      have L6:=Aside0.mk (show a6.1.length≤a2.1.length+2 by rw [ha6];exact putF_len _ _ _ _)
      have L5:=Aside0.mk (show a5.1.length≤a6.1.length+2 by rw [ha5];exact putF_len _ _ _ _)
      have HS:=Aside0.mk (show (if a5.2=true then a5 else hopsW (l.drop (i+1)) a5.1 a5.2)=R by
        have e:=HH.out;rw [HD.out] at e;simp only [hopsW] at e;rw [← ha2,← ha6,← ha5] at e;exact e)
      have H2:=Aside0.mk ha2
      have H6:=Aside0.mk ha6
      have H5:=Aside0.mk ha5
      clear ha2 ha6 ha5
      have hi':=Aside0.mk hi
      clear hi
      go_wp2_with (first
        | ((with_reducible refine gate_callee (f:=41) rfl ?_);refine goesL_ (some 19) rfl rfl Tryz.func41 (by kernel_rfl) rfl #[.pointer (some ⟨g,0,none⟩),.int .i64 2,.int .i64 h.f0] rfl lz ?_;(with_reducible refine (site_writer_put.calls g 2 _ cs cb 1 0 23 w0 _ rfl (by have:=HL.out;have:=HM.out;have:=hi'.out;omega) ?side1 ?side2).mono ?_);(case side1=>exact IsW.below HI.out (below_alloc (Below.refl _ _) _));(case side2=>exact below_alloc HB.out _);rintro e w5 ⟨rfl,hi,hb,hk⟩;refine ⟨_,rfl,?_⟩;rw [← H2.out] at hi;have BX:=Aside0.mk (KeepT.blk hk (blk_new _ _) (by decide) (by decide));have hcx0:=(blk_cell BX.out 0).trans rfl;have hcx1:=(blk_cell BX.out 1).trans rfl;have hcx2:=(blk_cell BX.out 2).trans rfl;replace HI:=Aside0.mk hi;replace HB:=Aside0.mk hb;replace HK:=Aside0.mk (KeepT.trans (KeepT.alloc HK.out _) hk);clear hi hb hk)
        | ((with_reducible refine gate_callee (f:=41) rfl ?_);refine goesL_ (some 23) rfl rfl Tryz.func41 (by kernel_rfl) rfl #[.pointer (some ⟨g,0,none⟩),.int .i64 6,.int .i64 h.f2] rfl lz ?_;(with_reducible refine (site_writer_put.calls g 6 _ a2.1 a2.2 1 0 5 w0 _ rfl (by have:=HL.out;have:=HM.out;have:=L2.out;have:=hi'.out;omega) ?side1 ?side2).mono ?_);(case side1=>exact HI.out);(case side2=>exact HB.out);rintro e w6 ⟨rfl,hi,hb,hk⟩;refine ⟨_,rfl,?_⟩;rw [← H6.out] at hi;replace BX:=Aside0.mk (KeepT.blk hk (BX.out) (by decide) (by decide));have hcx0:=(blk_cell BX.out 0).trans rfl;have hcx1:=(blk_cell BX.out 1).trans rfl;have hcx2:=(blk_cell BX.out 2).trans rfl;replace HI:=Aside0.mk hi;replace HB:=Aside0.mk hb;replace HK:=Aside0.mk (KeepT.trans HK.out hk);clear hi hb hk)
        | ((with_reducible refine gate_callee (f:=41) rfl ?_);refine goesL_ (some 27) rfl rfl Tryz.func41 (by kernel_rfl) rfl #[.pointer (some ⟨g,0,none⟩),.int .i64 5,.int .i64 h.f1] rfl lz ?_;(with_reducible refine (site_writer_put.calls g 5 _ a6.1 a6.2 2 0 5999 w0 _ rfl (by have:=HL.out;have:=HM.out;have:=L2.out;have:=L6.out;have:=hi'.out;omega) ?side1 ?side2).mono ?_);(case side1=>exact HI.out);(case side2=>exact HB.out);rintro e w7 ⟨rfl,hi,hb,hk⟩;refine ⟨_,rfl,?_⟩;rw [← H5.out] at hi;obtain ⟨v7,hbv,hgv,hrv⟩:=hi;have hcz:=(blk_cell hbv 1).trans rfl;have hi:IsW w0 w7 g a5.1 a5.2:=⟨v7,hbv,hgv,hrv⟩;clear hbv hgv hrv;replace HI:=Aside0.mk hi;replace HB:=Aside0.mk hb;replace HK:=Aside0.mk (KeepT.trans HK.out hk);clear hi hb hk))
      · rename_i hq
        have e:=HS.out
        rw [if_pos hq] at e
        subst e
        refine bodyPost_ret (results_none rfl _ _ _) rfl ?_
        exact ⟨rfl,HI.out,HB.out,HK.out⟩
      · rename_i hq
        have HS':=Aside0.mk (show hopsW (l.drop (i+1)) a5.1 a5.2=R by have e:=HS.out;rw [hq] at e;simpa [hq] using e)
        clear hcz hq
        go_roundg k1
        case measure=>exact Nat.lt_succ_self _
        case rel => exact ⟨i + 1, a5.1, a5.2, (by have e:wrap64 ((i:Int)+1)=((i+1:Nat):Int):=by (have:=hi'.out;have:=HM.out;unfold wrap64;omega)
                                                  rw [e]),⟨by have:=HA.out;omega⟩,HS',⟨by have:=HL.out;have:=L2.out;have:=L5.out;have:=L6.out;omega⟩,HI,HB,HK⟩
    · have hib:decide ((i:Int)<(l.length:Int))=false:=decide_eq_false (by omega)
      have e:=HH.out
      rw [List.drop_eq_nil_of_le (by omega)] at e
      simp only [hopsW] at e
      subst e
      have hib2:decide (i<l.length)=false:=decide_eq_false hi
      clear hi
      go_wp2
      (try simp only [Exit.inBlock,Exit.then])
      refine bodyPost_end (results_none rfl _ _ _) rfl ?_
      exact ⟨rfl,HI.out,HB.out,HK.out⟩
end Go.Proofs.YtmcfpcgpjppfkaaGreatDoor.PB
namespace Go.Proofs.YtmcfpcgpjppfkaaGreatDoor.PB
open Go.RowKit Go.Proofs.YtmcfpcgpjppfkaaGreatDoorW.PrintWords Go.Proofs.YtmcfpcgpjppfkaaGreatDoorW.PrintLast
set_option linter.unusedVariables false
set_option linter.unusedSimpArgs false
structure Fr where
  dst:Int
  box:Int
  node:Int
  port:Int
  kind:Int
  n:Int
  path:List S113
  gbox:Int
  gnode:Int
  gpath:List S113
  gn:Int
  lost:Bool
  picks:Int
abbrev Fr.cells (f:Fr) (A6:Option Addr) (c6:Nat) (A9:Option Addr) (c9:Nat):Array Value:=#[.int .i64 f.dst,.int .i64 f.box,.int .i64 f.node,.int .i64 f.port,.int .u8 f.kind,.int .i64 f.n,.slice A6 f.path.length c6,.int .i64 f.gbox,.int .i64 f.gnode,.slice A9 f.gpath.length c9,.int .i64 f.gn,.bool f.lost,.int .i64 f.picks]
def putS (k n:Int) (s:List Int × Bool):List Int × Bool:=putF k n s.1 s.2
def pathS (l:List S113) (s:List Int × Bool):List Int × Bool:=pathW l s.1 s.2
theorem KeepT.behind {w w1 w2:World} (k:KeepT w1 w2) (h:KeepT w w1):KeepT w w2:=h.trans k
def frame1 (f:Fr):List Int × Bool:=putS 8 f.gn (pathS f.path (putS 5 f.node (putS 4 f.n (putS 3 f.port (putS 2 f.box (putS 1 (wrap64 f.kind) (putS 0 f.dst ([],false))))))))
def isZeroF (f:Fr):Bool:=f.gbox == 0 && f.gnode == 0 && f.gpath.length == 0 && f.gn == 0
def frame2 (f:Fr) (s:List Int × Bool):List Int × Bool:=if f.gn=0 then (s.1,s.2 || !isZeroF f) else pathS f.gpath (putS 5 f.gnode (putS 2 f.gbox s))
def frame3 (f:Fr) (s:List Int × Bool):List Int × Bool:=putS 9 f.picks (putS 8 (if f.lost then 1 else 0) s)
def frameW (f:Fr):List Int × Bool:=frame3 f (frame2 f (frame1 f))
theorem putS_len (k n:Int) (s:List Int × Bool):(putS k n s).1.length≤s.1.length+2:=putF_len _ _ _ _
theorem pathS_len (l:List S113) (s:List Int × Bool):(pathS l s).1.length≤s.1.length+2+6*l.length:=pathW_len _ _ _
set_option maxHeartbeats 16000000 in
set_option maxRecDepth 100000 in
theorem site_writer_frame.calls (g:Nat) (f:Fr) (A6:Option Addr) (c6:Nat) (A9:Option Addr) (c9:Nat) (w0 w:World) (hC6:Kd.C k113 w0 A6 f.path.length f.path) (hC9:Kd.C k113 w0 A9 f.gpath.length f.gpath) (hc9:f.gpath.length≤c9) (hl6:f.path.length≤1000) (hl9:f.gpath.length≤1000) (hI:IsW w0 w g [] false) (hB:Below w0.heap.size w0 w) :
    Calls Tryz.prog 19 #[.pointer (some ⟨g,0,none⟩),.agg (f.cells A6 c6 A9 c9)] w fun e w'=>e=.returned (.tuple #[])∧IsW w0 w' g (frameW f).1 (frameW f).2∧Below w0.heap.size w0 w'∧KeepT w w':=by
  have HC6:=Aside0.mk hC6
  have HC9:=Aside0.mk hC9
  have HL6:=Aside0.mk hl6
  have HL9:=Aside0.mk hl9
  have HB:=Aside0.mk hB
  have HK:=Aside0.mk (KeepT.refl w)
  clear hC6 hC9 hl6 hl9 hB
  have hu30:=Tryz.underlying30
  have hu28:=Tryz.underlying28
  have hu26:=Tryz.underlying26
  have hu23:=Tryz.underlying23
  obtain ⟨s0,hs0⟩ : ∃ s:List Int × Bool,s=([],false):=⟨_,rfl⟩
  have Ls0:=Aside0.mk (show s0.1.length≤0 by rw [hs0];exact Nat.le_refl _)
  have HI:=Aside0.mk (show IsW w0 w g s0.1 s0.2 by rw [hs0];exact hI)
  have Es0:=Aside0.mk hs0
  clear hs0 hI
  obtain ⟨s1,hs1⟩ : ∃ s:List Int × Bool,s=putS 0 f.dst s0:=⟨_,rfl⟩
  have Ls1:=Aside0.mk (show s1.1.length≤2 by rw [hs1];have:=putS_len 0 f.dst s0;have:=Ls0.out;omega)
  have Es1:=Aside0.mk hs1
  clear hs1
  obtain ⟨s2,hs2⟩ : ∃ s:List Int × Bool,s=putS 1 (wrap64 f.kind) s1:=⟨_,rfl⟩
  have Ls2:=Aside0.mk (show s2.1.length≤4 by rw [hs2];have:=putS_len 1 (wrap64 f.kind) s1;have:=Ls1.out;omega)
  have Es2:=Aside0.mk hs2
  clear hs2
  obtain ⟨s3,hs3⟩ : ∃ s:List Int × Bool,s=putS 2 f.box s2:=⟨_,rfl⟩
  have Ls3:=Aside0.mk (show s3.1.length≤6 by rw [hs3];have:=putS_len 2 f.box s2;have:=Ls2.out;omega)
  have Es3:=Aside0.mk hs3
  clear hs3
  obtain ⟨s4,hs4⟩ : ∃ s:List Int × Bool,s=putS 3 f.port s3:=⟨_,rfl⟩
  have Ls4:=Aside0.mk (show s4.1.length≤8 by rw [hs4];have:=putS_len 3 f.port s3;have:=Ls3.out;omega)
  have Es4:=Aside0.mk hs4
  clear hs4
  obtain ⟨s5,hs5⟩ : ∃ s:List Int × Bool,s=putS 4 f.n s4:=⟨_,rfl⟩
  have Ls5:=Aside0.mk (show s5.1.length≤10 by rw [hs5];have:=putS_len 4 f.n s4;have:=Ls4.out;omega)
  have Es5:=Aside0.mk hs5
  clear hs5
  obtain ⟨s6,hs6⟩ : ∃ s:List Int × Bool,s=putS 5 f.node s5:=⟨_,rfl⟩
  have Ls6:=Aside0.mk (show s6.1.length≤12 by rw [hs6];have:=putS_len 5 f.node s5;have:=Ls5.out;omega)
  have Es6:=Aside0.mk hs6
  clear hs6
  obtain ⟨s7,hs7⟩ : ∃ s:List Int × Bool,s=pathS f.path s6:=⟨_,rfl⟩
  have Ls7:=Aside0.mk (show s7.1.length≤7000 by rw [hs7];have:=pathS_len f.path s6;have:=Ls6.out;have:=HL6.out;omega)
  have Es7:=Aside0.mk hs7
  clear hs7
  obtain ⟨s8,hs8⟩ : ∃ s:List Int × Bool,s=putS 8 f.gn s7:=⟨_,rfl⟩
  have Ls8:=Aside0.mk (show s8.1.length≤7002 by rw [hs8];have:=putS_len 8 f.gn s7;have:=Ls7.out;omega)
  have Es8:=Aside0.mk hs8
  clear hs8
  obtain ⟨t1,ht1⟩ : ∃ s:List Int × Bool,s=putS 2 f.gbox s8:=⟨_,rfl⟩
  have Lt1:=Aside0.mk (show t1.1.length≤7004 by rw [ht1];have:=putS_len 2 f.gbox s8;have:=Ls8.out;omega)
  have Et1:=Aside0.mk ht1
  clear ht1
  obtain ⟨t2,ht2⟩ : ∃ s:List Int × Bool,s=putS 5 f.gnode t1:=⟨_,rfl⟩
  have Lt2:=Aside0.mk (show t2.1.length≤7006 by rw [ht2];have:=putS_len 5 f.gnode t1;have:=Lt1.out;omega)
  have Et2:=Aside0.mk ht2
  clear ht2
  obtain ⟨t3,ht3⟩ : ∃ s:List Int × Bool,s=pathS f.gpath t2:=⟨_,rfl⟩
  have Lt3:=Aside0.mk (show t3.1.length≤14000 by rw [ht3];have:=pathS_len f.gpath t2;have:=Lt2.out;have:=HL9.out;omega)
  have Et3:=Aside0.mk ht3
  clear ht3
  obtain ⟨s9,hs9⟩ : ∃ s:List Int × Bool,s=frame2 f s8:=⟨_,rfl⟩
  have C3:=Aside0.mk (show ((f.gn == 0)=true∧decide (f.gn=0)=true∧s8.2=true∧Aside0 (s9=(s8.1,true)))∨((f.gn == 0)=true∧decide (f.gn=0)=true∧s8.2=false∧Aside0 (s9=(s8.1,!isZeroF f)))∨((f.gn == 0)=false∧decide (f.gn=0)=false∧Aside0 (s9=t3)) by
    by_cases h:f.gn=0
    · cases h8:s8.2
      · exact .inr (.inl ⟨by simp [h],decide_eq_true h,rfl,⟨by rw [hs9];unfold frame2;rw [if_pos h,h8];rfl⟩⟩)
      · exact .inl ⟨by simp [h],decide_eq_true h,rfl,⟨by rw [hs9];unfold frame2;rw [if_pos h,h8];rfl⟩⟩
    · exact .inr (.inr ⟨by simp [h],decide_eq_false h,⟨by rw [hs9];unfold frame2;rw [if_neg h,Et3.out,Et2.out,Et1.out]⟩⟩))
  have Ls9:=Aside0.mk (show s9.1.length≤14000 by
    have:=Ls8.out;have:=Lt3.out
    rcases C3.out with ⟨_,_,_,H⟩ | ⟨_,_,_,H⟩ | ⟨_,_,H⟩ <;> rw [H.out] <;> (try simp only) <;> omega)
  have Es9:=Aside0.mk hs9
  clear hs9
  obtain ⟨s10,hs10⟩ : ∃ s:List Int × Bool,s=putS 8 (if f.lost=true then 1 else 0) s9:=⟨_,rfl⟩
  have Ls10:=Aside0.mk (show s10.1.length≤14002 by rw [hs10];have:=putS_len 8 (if f.lost=true then 1 else 0) s9;have:=Ls9.out;omega)
  have Es10:=Aside0.mk hs10
  clear hs10
  obtain ⟨s11,hs11⟩ : ∃ s:List Int × Bool,s=putS 9 f.picks s10:=⟨_,rfl⟩
  have Ls11:=Aside0.mk (show s11.1.length≤14004 by rw [hs11];have:=putS_len 9 f.picks s10;have:=Ls10.out;omega)
  have Es11:=Aside0.mk hs11
  clear hs11
  have hf1:frame1 f=s8:=by unfold frame1;rw [Es8.out,Es7.out,Es6.out,Es5.out,Es4.out,Es3.out,Es2.out,Es1.out,Es0.out]
  have HF:=Aside0.mk (show frameW f=s11 by unfold frameW frame3;rw [hf1,Es11.out,Es10.out,Es9.out])
  have HZ:=Aside0.mk (show site_isZero.f f.gbox f.gnode f.gpath f.gn=some (isZeroF f) by
    unfold site_isZero.f isZeroF
    by_cases h1:(f.gbox == 0 && f.gnode == 0)=true
    · rw [if_pos h1,h1]
      by_cases h2:(f.gpath.length:Int)=0
      · rw [if_pos h2,show (f.gpath.length == 0)=true by simpa using h2];simp
      · rw [if_neg h2,show (f.gpath.length == 0)=false by simpa using h2];simp
    · rw [if_neg h1,show (f.gbox == 0 && f.gnode == 0)=false by simpa using h1];simp)
  have hng:g<w.heap.size:=by obtain ⟨v,hb,_,_⟩:=HI.out;exact blk_lt hb
  have hng1:g≠w.heap.size:=Nat.ne_of_lt hng
  have hng2:w.heap.size≠g:=Nat.ne_of_gt hng
  rw [HF.out]
  clear hf1 hng
  go_enter Tryz.func19,Tryz.ntmps19
  go_wp2_with (first
    | ((with_reducible refine gate_callee (f:=41) rfl ?_);refine goesL_ (some 8) rfl rfl Tryz.func41 (by kernel_rfl) rfl #[.pointer (some ⟨g,0,none⟩),.int .i64 0,.int .i64 f.dst] rfl lz ?_;(with_reducible refine (site_writer_put.calls g 0 _ s0.1 s0.2 1 0 3 w0 _ rfl (by have:=Ls0.out;omega) ?side1 ?side2).mono ?_);(case side1=>exact IsW.below HI.out (below_alloc (Below.refl _ _) _));(case side2=>exact below_alloc HB.out _);rintro e w1 ⟨rfl,hi,hb,hk⟩;refine ⟨_,rfl,?_⟩;replace hi:IsW w0 w1 g s1.1 s1.2:=(by rw [Es1.out];exact hi);have BX:=Aside0.mk (KeepT.blk hk (blk_new _ _) (by decide) (by decide));(try clear hcx0);(try clear hcx1);(try clear hcx2);(try clear hcx3);(try clear hcx4);(try clear hcx5);(try clear hcx6);(try clear hcx7);(try clear hcx8);(try clear hcx9);(try clear hcx10);(try clear hcx11);(try clear hcx12);have hcx4:=(blk_cell BX.out 4).trans rfl;replace HI:=Aside0.mk hi;replace HB:=Aside0.mk hb;replace HK:=Aside0.mk (KeepT.trans (KeepT.alloc HK.out _) hk);clear hi hb hk)
    | ((with_reducible refine gate_callee (f:=41) rfl ?_);refine goesL_ (some 14) rfl rfl Tryz.func41 (by kernel_rfl) rfl #[.pointer (some ⟨g,0,none⟩),.int .i64 1,.int .i64 (wrap64 f.kind)] rfl lz ?_;(with_reducible refine (site_writer_put.calls g 1 _ s1.1 s1.2 1 1 8 w0 _ rfl (by have:=Ls1.out;omega) ?side1 ?side2).mono ?_);(case side1=>exact HI.out);(case side2=>exact HB.out);rintro e w2 ⟨rfl,hi,hb,hk⟩;refine ⟨_,rfl,?_⟩;replace hi:IsW w0 w2 g s2.1 s2.2:=(by rw [Es2.out];exact hi);replace BX:=Aside0.mk (KeepT.blk hk BX.out (by decide) (by decide));(try clear hcx0);(try clear hcx1);(try clear hcx2);(try clear hcx3);(try clear hcx4);(try clear hcx5);(try clear hcx6);(try clear hcx7);(try clear hcx8);(try clear hcx9);(try clear hcx10);(try clear hcx11);(try clear hcx12);have hcx1:=(blk_cell BX.out 1).trans rfl;replace HI:=Aside0.mk hi;replace HB:=Aside0.mk hb;replace HK:=Aside0.mk (KeepT.trans HK.out hk);clear hi hb hk)
    | ((with_reducible refine gate_callee (f:=41) rfl ?_);refine goesL_ (some 20) rfl rfl Tryz.func41 (by kernel_rfl) rfl #[.pointer (some ⟨g,0,none⟩),.int .i64 2,.int .i64 f.box] rfl lz ?_;(with_reducible refine (site_writer_put.calls g 2 _ s2.1 s2.2 1 0 23 w0 _ rfl (by have:=Ls2.out;omega) ?side1 ?side2).mono ?_);(case side1=>exact HI.out);(case side2=>exact HB.out);rintro e w3 ⟨rfl,hi,hb,hk⟩;refine ⟨_,rfl,?_⟩;replace hi:IsW w0 w3 g s3.1 s3.2:=(by rw [Es3.out];exact hi);replace BX:=Aside0.mk (KeepT.blk hk BX.out (by decide) (by decide));(try clear hcx0);(try clear hcx1);(try clear hcx2);(try clear hcx3);(try clear hcx4);(try clear hcx5);(try clear hcx6);(try clear hcx7);(try clear hcx8);(try clear hcx9);(try clear hcx10);(try clear hcx11);(try clear hcx12);have hcx3:=(blk_cell BX.out 3).trans rfl;replace HI:=Aside0.mk hi;replace HB:=Aside0.mk hb;replace HK:=Aside0.mk (KeepT.trans HK.out hk);clear hi hb hk)
    | ((with_reducible refine gate_callee (f:=41) rfl ?_);refine goesL_ (some 25) rfl rfl Tryz.func41 (by kernel_rfl) rfl #[.pointer (some ⟨g,0,none⟩),.int .i64 3,.int .i64 f.port] rfl lz ?_;(with_reducible refine (site_writer_put.calls g 3 _ s3.1 s3.2 1 0 255 w0 _ rfl (by have:=Ls3.out;omega) ?side1 ?side2).mono ?_);(case side1=>exact HI.out);(case side2=>exact HB.out);rintro e w4 ⟨rfl,hi,hb,hk⟩;refine ⟨_,rfl,?_⟩;replace hi:IsW w0 w4 g s4.1 s4.2:=(by rw [Es4.out];exact hi);replace BX:=Aside0.mk (KeepT.blk hk BX.out (by decide) (by decide));(try clear hcx0);(try clear hcx1);(try clear hcx2);(try clear hcx3);(try clear hcx4);(try clear hcx5);(try clear hcx6);(try clear hcx7);(try clear hcx8);(try clear hcx9);(try clear hcx10);(try clear hcx11);(try clear hcx12);have hcx5:=(blk_cell BX.out 5).trans rfl;replace HI:=Aside0.mk hi;replace HB:=Aside0.mk hb;replace HK:=Aside0.mk (KeepT.trans HK.out hk);clear hi hb hk)
    | ((with_reducible refine gate_callee (f:=41) rfl ?_);refine goesL_ (some 30) rfl rfl Tryz.func41 (by kernel_rfl) rfl #[.pointer (some ⟨g,0,none⟩),.int .i64 4,.int .i64 f.n] rfl lz ?_;(with_reducible refine (site_writer_put.calls g 4 _ s4.1 s4.2 1 0 63 w0 _ rfl (by have:=Ls4.out;omega) ?side1 ?side2).mono ?_);(case side1=>exact HI.out);(case side2=>exact HB.out);rintro e w5 ⟨rfl,hi,hb,hk⟩;refine ⟨_,rfl,?_⟩;replace hi:IsW w0 w5 g s5.1 s5.2:=(by rw [Es5.out];exact hi);replace BX:=Aside0.mk (KeepT.blk hk BX.out (by decide) (by decide));(try clear hcx0);(try clear hcx1);(try clear hcx2);(try clear hcx3);(try clear hcx4);(try clear hcx5);(try clear hcx6);(try clear hcx7);(try clear hcx8);(try clear hcx9);(try clear hcx10);(try clear hcx11);(try clear hcx12);have hcx2:=(blk_cell BX.out 2).trans rfl;replace HI:=Aside0.mk hi;replace HB:=Aside0.mk hb;replace HK:=Aside0.mk (KeepT.trans HK.out hk);clear hi hb hk)
    | ((with_reducible refine gate_callee (f:=41) rfl ?_);refine goesL_ (some 36) rfl rfl Tryz.func41 (by kernel_rfl) rfl #[.pointer (some ⟨g,0,none⟩),.int .i64 5,.int .i64 f.node] rfl lz ?_;(with_reducible refine (site_writer_put.calls g 5 _ s5.1 s5.2 2 0 5999 w0 _ rfl (by have:=Ls5.out;omega) ?side1 ?side2).mono ?_);(case side1=>exact HI.out);(case side2=>exact HB.out);rintro e w6 ⟨rfl,hi,hb,hk⟩;refine ⟨_,rfl,?_⟩;replace hi:IsW w0 w6 g s6.1 s6.2:=(by rw [Es6.out];exact hi);replace BX:=Aside0.mk (KeepT.blk hk BX.out (by decide) (by decide));(try clear hcx0);(try clear hcx1);(try clear hcx2);(try clear hcx3);(try clear hcx4);(try clear hcx5);(try clear hcx6);(try clear hcx7);(try clear hcx8);(try clear hcx9);(try clear hcx10);(try clear hcx11);(try clear hcx12);have hcx6:=(blk_cell BX.out 6).trans rfl;replace HI:=Aside0.mk hi;replace HB:=Aside0.mk hb;replace HK:=Aside0.mk (KeepT.trans HK.out hk);clear hi hb hk)
    | ((with_reducible refine gate_callee (f:=42) rfl ?_);refine goesL_ (some 41) rfl rfl Tryz.func42 (by kernel_rfl) rfl #[.pointer (some ⟨g,0,none⟩),.slice A6 f.path.length c6] rfl lz ?_;(with_reducible refine (site_writer_path.calls g A6 c6 f.path s6.1 s6.2 w0 _ HC6.out HL6.out (by have:=Ls6.out;omega) HI.out HB.out).mono ?_);rintro e w7 ⟨rfl,hi,hb,hk⟩;refine ⟨_,rfl,?_⟩;replace hi:IsW w0 w7 g s7.1 s7.2:=(by rw [Es7.out];exact hi);replace BX:=Aside0.mk (KeepT.blk hk BX.out (by decide) (by decide));(try clear hcx0);(try clear hcx1);(try clear hcx2);(try clear hcx3);(try clear hcx4);(try clear hcx5);(try clear hcx6);(try clear hcx7);(try clear hcx8);(try clear hcx9);(try clear hcx10);(try clear hcx11);(try clear hcx12);have hcx10:=(blk_cell BX.out 10).trans rfl;replace HI:=Aside0.mk hi;replace HB:=Aside0.mk hb;replace HK:=Aside0.mk (KeepT.trans HK.out hk);clear hi hb hk)
    | ((with_reducible refine gate_callee (f:=41) rfl ?_);refine goesL_ (some 46) rfl rfl Tryz.func41 (by kernel_rfl) rfl #[.pointer (some ⟨g,0,none⟩),.int .i64 8,.int .i64 f.gn] rfl lz ?_;(with_reducible refine (site_writer_put.calls g 8 _ s7.1 s7.2 1 0 1 w0 _ rfl (by have:=Ls7.out;omega) ?side1 ?side2).mono ?_);(case side1=>exact HI.out);(case side2=>exact HB.out);rintro e w8 ⟨rfl,hi,hb,hk⟩;refine ⟨_,rfl,?_⟩;replace hi:IsW w0 w8 g s8.1 s8.2:=(by rw [Es8.out];exact hi);replace BX:=Aside0.mk (KeepT.blk hk BX.out (by decide) (by decide));(try clear hcx0);(try clear hcx1);(try clear hcx2);(try clear hcx3);(try clear hcx4);(try clear hcx5);(try clear hcx6);(try clear hcx7);(try clear hcx8);(try clear hcx9);(try clear hcx10);(try clear hcx11);(try clear hcx12);have hcx7:=(blk_cell BX.out 7).trans rfl;have hcx8:=(blk_cell BX.out 8).trans rfl;have hcx9:=(blk_cell BX.out 9).trans rfl;have hcx10:=(blk_cell BX.out 10).trans rfl;have hcx11:=(blk_cell BX.out 11).trans rfl;replace HI:=Aside0.mk hi;replace HB:=Aside0.mk hb;replace HK:=Aside0.mk (KeepT.trans HK.out hk);obtain ⟨vz,hbv,hgv,hrv⟩:=HI.out;have hcz:w8.cell? ⟨g,1,none⟩=some (.bool s8.2):=(blk_cell hbv 1).trans rfl;have hfz:=blk_frozen hbv 1;have HV:=Aside0.mk hbv;have HRV:=Aside0.mk hrv;have HGV:=Aside0.mk hgv;clear hbv hgv hrv;clear hi hb hk;rcases C3.out with ⟨hgb,hgd,hq,H9⟩ | ⟨hgb,hgd,hq,H9⟩ | ⟨hgb,hgd,H9⟩ <;> (try rw [hq] at hcz))
    | ((with_reducible refine gate_callee (f:=43) rfl ?_);(try (refine gate_guard (by rfl) ?_;dsimp only));refine goesL_ (some 59) rfl rfl Tryz.func43 (by kernel_rfl) rfl #[.agg #[.int .i64 f.gbox,.int .i64 f.gnode,.slice A9 f.gpath.length c9,.int .i64 f.gn]] rfl lz ?_;(with_reducible refine (site_isZero.calls f.gbox f.gnode A9 c9 f.gpath f.gn (isZeroF f) _ (Kd.C_below HC9.out HB.out) hc9 HZ.out).mono ?_);rintro e w9 ⟨rfl,hb⟩;refine ⟨_,rfl,?_⟩;replace BX:=Aside0.mk ((hb.block _ (blk_lt BX.out)).trans BX.out);replace HV:=Aside0.mk ((hb.block _ (blk_lt HV.out)).trans HV.out);replace HRV:=Aside0.mk (Kd.R_below HRV.out hb);replace HK:=Aside0.mk (KeepT.below HK.out hb);replace HB:=Aside0.mk (below_then HB.out HB.out.size hb);(try clear hcz);(try clear hfz);have hcz:w9.cell? ⟨g,1,none⟩=some (.bool s8.2):=(blk_cell HV.out 1).trans rfl;have hfz:=blk_frozen HV.out 1;(try clear hcx0);(try clear hcx1);(try clear hcx2);(try clear hcx3);(try clear hcx4);(try clear hcx5);(try clear hcx6);(try clear hcx7);(try clear hcx8);(try clear hcx9);(try clear hcx10);(try clear hcx11);(try clear hcx12);have hcx11:=(blk_cell BX.out 11).trans rfl;clear hb)
    | ((with_reducible refine gate_callee (f:=41) rfl ?_);refine goesL_ (some 69) rfl rfl Tryz.func41 (by kernel_rfl) rfl #[.pointer (some ⟨g,0,none⟩),.int .i64 2,.int .i64 f.gbox] rfl lz ?_;(with_reducible refine (site_writer_put.calls g 2 _ s8.1 s8.2 1 0 23 w0 _ rfl (by have:=Ls8.out;omega) ?side1 ?side2).mono ?_);(case side1=>exact HI.out);(case side2=>exact HB.out);rintro e w10 ⟨rfl,hi,hb,hk⟩;refine ⟨_,rfl,?_⟩;replace hi:IsW w0 w10 g t1.1 t1.2:=(by rw [Et1.out];exact hi);replace BX:=Aside0.mk (KeepT.blk hk BX.out (by decide) (by decide));(try clear hcx0);(try clear hcx1);(try clear hcx2);(try clear hcx3);(try clear hcx4);(try clear hcx5);(try clear hcx6);(try clear hcx7);(try clear hcx8);(try clear hcx9);(try clear hcx10);(try clear hcx11);(try clear hcx12);have hcx8:=(blk_cell BX.out 8).trans rfl;replace HI:=Aside0.mk hi;replace HB:=Aside0.mk hb;replace HK:=Aside0.mk (KeepT.trans HK.out hk);clear hi hb hk)
    | ((with_reducible refine gate_callee (f:=41) rfl ?_);refine goesL_ (some 75) rfl rfl Tryz.func41 (by kernel_rfl) rfl #[.pointer (some ⟨g,0,none⟩),.int .i64 5,.int .i64 f.gnode] rfl lz ?_;(with_reducible refine (site_writer_put.calls g 5 _ t1.1 t1.2 2 0 5999 w0 _ rfl (by have:=Lt1.out;omega) ?side1 ?side2).mono ?_);(case side1=>exact HI.out);(case side2=>exact HB.out);rintro e w11 ⟨rfl,hi,hb,hk⟩;refine ⟨_,rfl,?_⟩;replace hi:IsW w0 w11 g t2.1 t2.2:=(by rw [Et2.out];exact hi);replace BX:=Aside0.mk (KeepT.blk hk BX.out (by decide) (by decide));(try clear hcx0);(try clear hcx1);(try clear hcx2);(try clear hcx3);(try clear hcx4);(try clear hcx5);(try clear hcx6);(try clear hcx7);(try clear hcx8);(try clear hcx9);(try clear hcx10);(try clear hcx11);(try clear hcx12);have hcx9:=(blk_cell BX.out 9).trans rfl;replace HI:=Aside0.mk hi;replace HB:=Aside0.mk hb;replace HK:=Aside0.mk (KeepT.trans HK.out hk);clear hi hb hk)
    | ((with_reducible refine gate_callee (f:=42) rfl ?_);refine goesL_ (some 80) rfl rfl Tryz.func42 (by kernel_rfl) rfl #[.pointer (some ⟨g,0,none⟩),.slice A9 f.gpath.length c9] rfl lz ?_;(with_reducible refine (site_writer_path.calls g A9 c9 f.gpath t2.1 t2.2 w0 _ HC9.out HL9.out (by have:=Lt2.out;omega) HI.out HB.out).mono ?_);rintro e w12 ⟨rfl,hi,hb,hk⟩;refine ⟨_,rfl,?_⟩;replace hi:IsW w0 w12 g t3.1 t3.2:=(by rw [Et3.out];exact hi);replace BX:=Aside0.mk (KeepT.blk hk BX.out (by decide) (by decide));(try clear hcx0);(try clear hcx1);(try clear hcx2);(try clear hcx3);(try clear hcx4);(try clear hcx5);(try clear hcx6);(try clear hcx7);(try clear hcx8);(try clear hcx9);(try clear hcx10);(try clear hcx11);(try clear hcx12);have hcx11:=(blk_cell BX.out 11).trans rfl;replace HI:=Aside0.mk hi;replace HB:=Aside0.mk hb;replace HK:=Aside0.mk (KeepT.trans HK.out hk);clear hi hb hk)
    | ((with_reducible refine gate_callee (f:=41) rfl ?_);refine goesL_ (some 85) rfl rfl Tryz.func41 (by kernel_rfl) rfl #[.pointer (some ⟨g,0,none⟩),.int .i64 8,.int .i64 1] rfl lz ?_;(with_reducible refine (site_writer_put.calls g 8 _ s9.1 s9.2 1 0 1 w0 _ rfl (by have:=Ls9.out;omega) ?side1 ?side2).mono ?_);(case side1=>first | (rw [H9.out];exact ⟨_,(by simpa using blk_set HV.out 1 _),HGV.out,Kd.R_far HRV.out (fun k hk=>hk) _⟩) | (rw [H9.out];exact HI.out));(case side2=>first | exact HB.out | exact below_set HB.out HGV.out);rintro e w13 ⟨rfl,hi,hb,hk⟩;refine ⟨_,rfl,?_⟩;replace hi:IsW w0 w13 g s10.1 s10.2:=(by rw [Es10.out,show (if f.lost=true then (1:Int) else 0)=1 from if_pos (by assumption)];exact hi);replace BX:=Aside0.mk (KeepT.blk (t:=30) (cs:=f.cells A6 c6 A9 c9) (fr:=(0,0)) hk (by first | exact BX.out | exact blk_far BX.out hng2 _) (by decide) (by decide));(try clear hcx0);(try clear hcx1);(try clear hcx2);(try clear hcx3);(try clear hcx4);(try clear hcx5);(try clear hcx6);(try clear hcx7);(try clear hcx8);(try clear hcx9);(try clear hcx10);(try clear hcx11);(try clear hcx12);have hcx12:=(blk_cell BX.out 12).trans rfl;replace HI:=Aside0.mk hi;replace HB:=Aside0.mk hb;replace HK:=Aside0.mk (KeepT.behind hk (by first | exact HK.out | exact KeepT.set HK.out HV.out (.inr rfl) _));clear hi hb hk)
    | ((with_reducible refine gate_callee (f:=41) rfl ?_);refine goesL_ (some 85) rfl rfl Tryz.func41 (by kernel_rfl) rfl #[.pointer (some ⟨g,0,none⟩),.int .i64 8,.int .i64 0] rfl lz ?_;(with_reducible refine (site_writer_put.calls g 8 _ s9.1 s9.2 1 0 1 w0 _ rfl (by have:=Ls9.out;omega) ?side1 ?side2).mono ?_);(case side1=>first | (rw [H9.out];exact ⟨_,(by simpa using blk_set HV.out 1 _),HGV.out,Kd.R_far HRV.out (fun k hk=>hk) _⟩) | (rw [H9.out];exact HI.out));(case side2=>first | exact HB.out | exact below_set HB.out HGV.out);rintro e w13 ⟨rfl,hi,hb,hk⟩;refine ⟨_,rfl,?_⟩;replace hi:IsW w0 w13 g s10.1 s10.2:=(by rw [Es10.out,show (if f.lost=true then (1:Int) else 0)=0 from if_neg (by rw [show f.lost=false by assumption];decide)];exact hi);replace BX:=Aside0.mk (KeepT.blk (t:=30) (cs:=f.cells A6 c6 A9 c9) (fr:=(0,0)) hk (by first | exact BX.out | exact blk_far BX.out hng2 _) (by decide) (by decide));(try clear hcx0);(try clear hcx1);(try clear hcx2);(try clear hcx3);(try clear hcx4);(try clear hcx5);(try clear hcx6);(try clear hcx7);(try clear hcx8);(try clear hcx9);(try clear hcx10);(try clear hcx11);(try clear hcx12);have hcx12:=(blk_cell BX.out 12).trans rfl;replace HI:=Aside0.mk hi;replace HB:=Aside0.mk hb;replace HK:=Aside0.mk (KeepT.behind hk (by first | exact HK.out | exact KeepT.set HK.out HV.out (.inr rfl) _));clear hi hb hk)
    | ((with_reducible refine gate_callee (f:=41) rfl ?_);refine goesL_ (some 89) rfl rfl Tryz.func41 (by kernel_rfl) rfl #[.pointer (some ⟨g,0,none⟩),.int .i64 9,.int .i64 f.picks] rfl lz ?_;(with_reducible refine (site_writer_put.calls g 9 _ s10.1 s10.2 2 0 20000 w0 _ rfl (by have:=Ls10.out;omega) ?side1 ?side2).mono ?_);(case side1=>exact HI.out);(case side2=>exact HB.out);rintro e w14 ⟨rfl,hi,hb,hk⟩;refine ⟨_,rfl,?_⟩;replace hi:IsW w0 w14 g s11.1 s11.2:=(by rw [Es11.out];exact hi);replace BX:=Aside0.mk (KeepT.blk hk BX.out (by decide) (by decide));(try clear hcx0);(try clear hcx1);(try clear hcx2);(try clear hcx3);(try clear hcx4);(try clear hcx5);(try clear hcx6);(try clear hcx7);(try clear hcx8);(try clear hcx9);(try clear hcx10);(try clear hcx11);(try clear hcx12);replace HI:=Aside0.mk hi;replace HB:=Aside0.mk hb;replace HK:=Aside0.mk (KeepT.trans HK.out hk);clear hi hb hk))
  all_goals refine bodyPost_end (results_none rfl _ _ _) rfl ?_
  all_goals exact ⟨rfl,HI.out,HB.out,HK.out⟩
end Go.Proofs.YtmcfpcgpjppfkaaGreatDoor.PB
namespace Go.Proofs.YtmcfpcgpjppfkaaGreatDoor.PB
open Go.RowKit Go.Proofs.YtmcfpcgpjppfkaaGreatDoorW.PrintWords Go.Proofs.YtmcfpcgpjppfkaaGreatDoorW.PrintLast
set_option linter.unusedVariables false
set_option linter.unusedSimpArgs false
def siteB (f:Fr):List Int × Int:=if (frameW f).2=true then ([],4) else ((frameW f).1,0)
set_option maxHeartbeats 16000000 in
set_option maxRecDepth 100000 in
theorem site_Bytes.calls (f:Fr) (A6:Option Addr) (c6:Nat) (A9:Option Addr) (c9:Nat) (w:World) (hC6:Kd.C k113 w A6 f.path.length f.path) (hC9:Kd.C k113 w A9 f.gpath.length f.gpath) (hc9:f.gpath.length≤c9) (hl6:f.path.length≤1000) (hl9:f.gpath.length≤1000) :
    Calls Tryz.prog 6 #[.agg (f.cells A6 c6 A9 c9)] w fun e w' => ∃ v,e=.returned (.tuple #[v,.int .i64 (siteB f).2])∧Kd.R (Kd.int .u8) 5 w' w.heap.size (fun _=>True) v (siteB f).1∧Below w.heap.size w w':=by
  have hu30:=Tryz.underlying30
  have hu28:=Tryz.underlying28
  have hu26:=Tryz.underlying26
  have hu23:=Tryz.underlying23
  have hu48:=Tryz.underlying70
  have HC6:=Aside0.mk hC6
  have HC9:=Aside0.mk hC9
  clear hC6 hC9
  go_enter Tryz.func6,Tryz.ntmps6
  go_wp2_with (first
    | ((with_reducible refine gate_callee (f:=19) rfl ?_);refine goesL_ (some 9) rfl rfl Tryz.func19 (by kernel_rfl) rfl #[.pointer (some ⟨w.heap.size+1,0,none⟩),.agg (f.cells A6 c6 A9 c9)] lz lz ?_;(with_reducible refine (site_writer_frame.calls (w.heap.size+1) f A6 c6 A9 c9 w _ HC6.out HC9.out hc9 hl6 hl9 ?side1 ?side2).mono ?_);(case side1=>exact ⟨.slice none 0 0,(by have e:=blk_new (w.alloc (.cells (f.cells A6 c6 A9 c9) 30)) (.cells #[.slice none 0 0,.bool false] 70);simpa using e),(by omega),Kd.R_nil _ _ _ _ _⟩);(case side2=>exact below_alloc (below_alloc (Below.refl _ _) _) _);rintro e w5 ⟨rfl,hi,hb,hk⟩;refine ⟨_,rfl,?_⟩;obtain ⟨vz,hbv,hgv,hrv⟩:=hi;have hcz:=(blk_cell hbv 1).trans rfl;have hcy:=(blk_cell hbv 0).trans rfl;have HRV:=Aside0.mk hrv;have HB:=Aside0.mk hb;clear hbv hgv hrv hb hk))
  · rename_i hq
    go_ret2
    have e:siteB f=([],4):=by unfold siteB;rw [if_pos hq]
    rw [e]
    exact ⟨_,rfl,Kd.R_nil _ _ _ _ _,HB.out⟩
  · rename_i hq
    go_ret2
    have e:siteB f=((frameW f).1,0):=by unfold siteB;rw [if_neg (by rw [hq];decide)]
    rw [e]
    exact ⟨_,rfl,Kd.R_mono HRV.out (fun _ _=>trivial),HB.out⟩
end Go.Proofs.YtmcfpcgpjppfkaaGreatDoor.PB
