/- Contracts of the reference pathBytes, two and its bounds. Conditions: those that the theorems state. -/
import Derived.Test.YtmcfpcgpjppfkaaGreatDoorPA
import Derived.Test.YtmcfpcgpjppfkaaGreatDoorV
namespace Go.Proofs.YtmcfpcgpjppfkaaGreatDoor.PB
open Go.RowKit Go.Proofs.YtmcfpcgpjppfkaaGreatDoorW.PrintWords Go.Proofs.YtmcfpcgpjppfkaaGreatDoorW.PrintLast
set_option linter.unusedVariables false
set_option linter.unusedSimpArgs false
def riposteref24_isPath.l0:Nat→List (S113)→Int→Option (Bool)
  | 0,_,_=>none
  | k+1,x0,x3=>if x3<(x0.length:Int) then (if 0≤x3 then ((riposteref24_isPlace.f ((rd_T113 x0 x3).f0) ((rd_T113 x0 x3).f1)).bind fun t198=>(if t198=true then ((riposteref16_In.f ((rd_T113 x0 x3).f2) 0 5).bind fun t200=>(if t200=true then (riposteref24_isPath.l0 k x0 (wrap64 (x3+1))) else (some false))) else (some false))) else (none)) else (some (decide ((x0.length:Int)≤200)))
def riposteref24_isPath.f (k:Nat) (l0:List (S113)):Option (Bool):=riposteref24_isPath.l0 k l0 0
theorem riposteref24_isPath.mono_l : ∀ k,(∀ y0 y1,LeO (riposteref24_isPath.l0 k y0 y1) (riposteref24_isPath.l0 (k+1) y0 y1))
  | 0=>fun _ _ r h=>by simp [riposteref24_isPath.l0] at h
  | k+1=>by
    have ih0:=riposteref24_isPath.mono_l k
    · intro y0 y1
      unfold riposteref24_isPath.l0
      repeat' first
      | (with_reducible exact ih0 _ _)
      | (with_reducible exact LeO.refl _)
      | (with_reducible exact LeO.none _)
      | (with_reducible refine LeO.ite ?_ ?_)
      | (with_reducible refine LeO.bind ?_ (fun _ => ?_))
      | exact ih0 _ _
      | exact LeO.none _
      | refine LeO.ite ?_ ?_
      | refine LeO.bind ?_ (fun _ => ?_)
theorem riposteref24_isPath.mono : ∀ a0 k,LeO (riposteref24_isPath.f k a0) (riposteref24_isPath.f (k+1) a0):=by
 intro a0 k;have ih0:=riposteref24_isPath.mono_l k;unfold riposteref24_isPath.f
 repeat' first
   | (with_reducible exact ih0 _ _)
   | (with_reducible exact LeO.refl _)
   | (with_reducible exact LeO.none _)
   | (with_reducible refine LeO.ite ?_ ?_)
   | (with_reducible refine LeO.bind ?_ (fun _ => ?_))
   | exact ih0 _ _
   | exact LeO.none _
   | refine LeO.ite ?_ ?_
   | refine LeO.bind ?_ (fun _ => ?_)
def riposteref24_isPath.T4:Bool × List (List Nat × List Nat):=(true,[([],[]),([],[]),([0,1],[0,1]),([2],[2]),([3],[3]),([],[]),([],[]),([5,6],[5,6]),([7],[7]),([8],[8]),([4,9],[4,9]),([10],[10]),([11],[11]),([12,11],[12]),([13],[13]),([13],[13]),([14,15,13],[13,14,15]),([16,13],[13,16]),([17,13],[13,17]),([18,13,13],[13,18]),([19,13],[13,19]),([13,20],[13,20])])
def riposteref24_isPath.B4:List Nat:=[0,0,3,7,15,0,0,96,224,480,1023,2047,4095,8191,16383,16383,65535,131071,262143,524287,1048575,2097151]
theorem riposteref24_isPath.tab4:rtab .any (opsOf Tryz.f22 4)=riposteref24_isPath.T4:=by kernel_rfl
theorem riposteref24_isPath.bits4:waitsOk riposteref24_isPath.T4.2 riposteref24_isPath.B4=true:=by kernel_rfl
set_option maxHeartbeats 8000000 in
set_option maxRecDepth 100000 in
theorem riposteref24_isPath.calls (k:Nat) (A0:Option Addr) (c0:Nat) (l0:List (S113)) (r:Bool) (w:World) (hr0:Kd.C k113 w A0 l0.length l0) (hc0:l0.length≤c0) (h:riposteref24_isPath.f k l0=some r) :
    Calls Tryz.prog 22 #[.slice A0 l0.length c0] w fun e w'=>e=.returned (.bool r)∧Below w.heap.size w w':=by
 have hu23:=Tryz.underlying23;have HR0:=Aside0.mk hr0;have HC0:=Aside0.mk hc0;clear hr0 hc0;have HB:=Aside0.mk (Below.refl w.heap.size w);have H:=h;unfold riposteref24_isPath.f at H;clear h;have H':=Aside0.mk H;clear H;go_enter Tryz.func22,Tryz.ntmps22
 go_wp2
 go_loopg [3] k (fun kq v3 w' => ∃ (x3_1:Int),v3=.int .i64 x3_1∧Aside0 (riposteref24_isPath.l0 kq l0 x3_1=some r)∧Aside0 (kq≤k)∧Aside0 (Below w.heap.size w w'))
 case atStart=>exact ⟨(0),(by first | rfl | (simp;done) | (simp [*];done)),H',⟨Nat.le_refl _⟩,⟨bz⟩⟩
 case round =>
  clear H';try clear c1
  obtain ⟨x3_1,rfl,HA,HK1,HB⟩:=hrel;cases gk with
  | zero=>exact absurd HA.out (by simp [riposteref24_isPath.l0])
  | succ k1 =>
   have H:=HA.out;clear HA;simp only [riposteref24_isPath.l0] at H;by_cases c2:x3_1<(l0.length:Int);rotate_left
   · rw [if_neg c2] at H;have c2b0:decide (x3_1<(l0.length:Int))=false:=decide_eq_false c2;clear c2;obtain rfl:=Option.some.inj H;go_wp2
     go_ret
     exact ⟨xz,bz⟩
   rw [if_pos c2] at H;have c2b0:decide (x3_1<(l0.length:Int))=true:=decide_eq_true c2;clear c2;by_cases c3:0≤x3_1;rotate_left
   · rw [if_neg c3] at H;exact absurd H (by simp)
   rw [if_pos c3] at H;have c3b0:decide (0≤x3_1)=true:=decide_eq_true c3;clear c3;replace H:=Option.bind_eq_some_iff.mp H;obtain ⟨t198,A40,H⟩:=H;have A4:=Aside0.mk A40;clear A40;by_cases c5:t198=true;rotate_left
   · replace c5:=Bool.eq_false_iff.mpr c5;subst c5;rw [if_neg (show ¬ (false=true) by decide)] at H;obtain rfl:=Option.some.inj H;try go_wp2
     replace HB:=Aside0.mk (below_drew1 HB.out);have p196:0≤(x3_1:Int):=of_decide_eq_true az;have q196:x3_1<(l0.length:Int):=of_decide_eq_true az;obtain ⟨ad196,e196,hx196_0,hx196_1,hx196_2⟩:=at_T113 HR0.out x3_1 p196 q196;have hw196_2:=hx196_2;have hw196_1:=hx196_1;have hw196_0:=hx196_0;cases e196
     replace hx196_0:=(HB.out.cell (World.block_lt_of_cell? w _ hx196_0)).trans hx196_0;replace hx196_1:=(HB.out.cell (World.block_lt_of_cell? w _ hx196_1)).trans hx196_1;replace hx196_2:=(HB.out.cell (World.block_lt_of_cell? w _ hx196_2)).trans hx196_2;replace p196:=eq_true p196;replace q196:=eq_true q196;have p197:0≤(x3_1:Int):=of_decide_eq_true az;have q197:x3_1<(l0.length:Int):=of_decide_eq_true az;obtain ⟨ad197,e197,hx197_0,hx197_1,hx197_2⟩:=at_T113 HR0.out x3_1 p197 q197;have hw197_2:=hx197_2;have hw197_1:=hx197_1;have hw197_0:=hx197_0;obtain rfl:ad196=ad197:=(by injection e197);replace hx197_0:=(HB.out.cell (World.block_lt_of_cell? w _ hx197_0)).trans hx197_0;replace hx197_1:=(HB.out.cell (World.block_lt_of_cell? w _ hx197_1)).trans hx197_1;replace hx197_2:=(HB.out.cell (World.block_lt_of_cell? w _ hx197_2)).trans hx197_2;replace p197:=eq_true p197;replace q197:=eq_true q197;refine start_ (n:=22) (S:=fun w'=>w'.cell? (ad196.add ((x3_1).toNat*3))=some (.int .i64 ((rd_T113 l0 x3_1).f0))∧w'.cell? ⟨(ad196.add ((x3_1).toNat*3)).block,(ad196.add ((x3_1).toNat*3)).off+1,none⟩=some (.int .i64 ((rd_T113 l0 x3_1).f1))∧w'.cell? ⟨(ad196.add ((x3_1).toNat*3)).block,(ad196.add ((x3_1).toNat*3)).off+2,none⟩=some (.int .i64 ((rd_T113 l0 x3_1).f2))∧w'.cell? (ad196.add ((x3_1).toNat*3))=some (.int .i64 ((rd_T113 l0 x3_1).f0))∧w'.cell? ⟨(ad196.add ((x3_1).toNat*3)).block,(ad196.add ((x3_1).toNat*3)).off+1,none⟩=some (.int .i64 ((rd_T113 l0 x3_1).f1))∧w'.cell? ⟨(ad196.add ((x3_1).toNat*3)).block,(ad196.add ((x3_1).toNat*3)).off+2,none⟩=some (.int .i64 ((rd_T113 l0 x3_1).f2))) (ds:=[]) #[false,false,false,false,false,false,false,false,false,false,false,false,false,false,false,false,false,false,false,false,false,false] (by kernel_rfl) rfl rfl ⟨((HB.out.cell (World.block_lt_of_cell? w _ hw196_0)).trans hw196_0),((HB.out.cell (World.block_lt_of_cell? w _ hw196_1)).trans hw196_1),((HB.out.cell (World.block_lt_of_cell? w _ hw196_2)).trans hw196_2),((HB.out.cell (World.block_lt_of_cell? w _ hw197_0)).trans hw197_0),((HB.out.cell (World.block_lt_of_cell? w _ hw197_1)).trans hw197_1),((HB.out.cell (World.block_lt_of_cell? w _ hw197_2)).trans hw197_2)⟩ (fun hHeld => ?_);refine with_tabW riposteref24_isPath.tab4 riposteref24_isPath.bits4 (fun HT_ HW_ => ?_);generalize wr.drew=w12 at HB hx196_0 hx196_1 hx196_2 hx197_0 hx197_1 hx197_2 hHeld ⊢;refine pz 0 10 HT_.out ?_;refine pz 1 11 HT_.out ?_;refine pz 2 12 HT_.out ?_;refine pz 3 13 HT_.out ?_;refine pz 5 15 HT_.out ?_;refine pz 6 16 HT_.out ?_;refine pz 7 17 HT_.out ?_;refine pz 8 18 HT_.out ?_;refine tz6 4 14 HT_.out HW_.out hHeld ?_;refine tz6 9 19 HT_.out HW_.out hHeld ?_;refine pz 10 20 HT_.out ?_;refine one_ (i:=11) (N:=some 21) #[true,true,true,true,true,true,true,true,true,true,true,true,false,false,false,false,false,false,false,false,false,false] rfl rfl (one_of HT_.out (by kernel_rfl)) (by decide) (fun K hK => ?_);refine goes_ Tryz.func21 (by kernel_rfl) rfl #[.agg #[.int .i64 ((rd_T113 l0 x3_1).f0),.int .i64 ((rd_T113 l0 x3_1).f1)]] (by rfl) rfl rfl lz ?_;with_reducible refine (riposteref24_isPlace.calls ((rd_T113 l0 x3_1).f0) ((rd_T113 l0 x3_1).f1) false _ A4.out).mono ?_
     rintro e w13 ⟨rfl,hb⟩;refine ⟨_,rfl,?_⟩;replace HB:=Aside0.mk (below_step bz hb);(try clear hb);(try clear hb2);(try clear hk);(try clear hi);refine hK.out _ _ ⟨((HB.out.cell (World.block_lt_of_cell? w _ hw196_0)).trans hw196_0),((HB.out.cell (World.block_lt_of_cell? w _ hw196_1)).trans hw196_1),((HB.out.cell (World.block_lt_of_cell? w _ hw196_2)).trans hw196_2),((HB.out.cell (World.block_lt_of_cell? w _ hw197_0)).trans hw197_0),((HB.out.cell (World.block_lt_of_cell? w _ hw197_1)).trans hw197_1),((HB.out.cell (World.block_lt_of_cell? w _ hw197_2)).trans hw197_2)⟩ (fun hHeld => ?_);clear hK K;refine nz ?_;refine pz 12 22 HT_.out ?_;refine pz 13 23 HT_.out ?_;refine pure_ (i:=14) (N:=some 24) (v:=undef) (a':=?_) #[true,true,true,true,true,true,true,true,true,true,true,true,true,true,true,false,false,false,false,false,false,false] rfl rfl (any_of HT_.out (by kernel_rfl)) (fun _ _ _ h=>h) (Or.inr ⟨by rfl,rfl⟩) ?_ ?_;rotate_left
     · simp only [Act.put,List.setIfInBounds_toArray,List.set_cons_zero,List.set_cons_succ,i64_w];rfl
     refine pure_ (i:=15) (N:=some 25) (v:=undef) (a':=?_) #[true,true,true,true,true,true,true,true,true,true,true,true,true,true,true,true,false,false,false,false,false,false] rfl rfl (any_of HT_.out (by kernel_rfl)) (fun _ _ _ h=>h) (Or.inr ⟨by rfl,rfl⟩) ?_ ?_;rotate_left
     · simp only [Act.put,List.setIfInBounds_toArray,List.set_cons_zero,List.set_cons_succ,i64_w];rfl
     refine pure_ (i:=16) (N:=some 26) (v:=undef) (a':=?_) #[true,true,true,true,true,true,true,true,true,true,true,true,true,true,true,true,true,false,false,false,false,false] rfl rfl (any_of HT_.out (by kernel_rfl)) (fun _ _ _ h=>h) (Or.inr ⟨by rfl,rfl⟩) ?_ ?_;rotate_left
     · simp only [Act.put,List.setIfInBounds_toArray,List.set_cons_zero,List.set_cons_succ,i64_w];rfl
     refine pure_ (i:=17) (N:=some 27) (v:=undef) (a':=?_) #[true,true,true,true,true,true,true,true,true,true,true,true,true,true,true,true,true,true,false,false,false,false] rfl rfl (any_of HT_.out (by kernel_rfl)) (fun _ _ _ h=>h) (Or.inr ⟨by rfl,rfl⟩) ?_ ?_;rotate_left
     · simp only [Act.put,List.setIfInBounds_toArray,List.set_cons_zero,List.set_cons_succ,i64_w];rfl
     refine pure_ (i:=18) (N:=some 28) (v:=undef) (a':=?_) #[true,true,true,true,true,true,true,true,true,true,true,true,true,true,true,true,true,true,true,false,false,false] rfl rfl (any_of HT_.out (by kernel_rfl)) (fun _ _ _ h=>h) (Or.inr ⟨by rfl,rfl⟩) ?_ ?_;rotate_left
     · simp only [Act.put,List.setIfInBounds_toArray,List.set_cons_zero,List.set_cons_succ,i64_w];rfl
     refine pure_ (i:=19) (N:=some 29) (v:=undef) (a':=?_) #[true,true,true,true,true,true,true,true,true,true,true,true,true,true,true,true,true,true,true,true,false,false] rfl rfl (any_of HT_.out (by kernel_rfl)) (fun _ _ _ h=>h) (Or.inr ⟨by rfl,rfl⟩) ?_ ?_;rotate_left
     · simp only [Act.put,List.setIfInBounds_toArray,List.set_cons_zero,List.set_cons_succ,i64_w];rfl
     refine pure_ (i:=20) (N:=some 30) (v:=undef) (a':=?_) #[true,true,true,true,true,true,true,true,true,true,true,true,true,true,true,true,true,true,true,true,true,false] rfl rfl (any_of HT_.out (by kernel_rfl)) (fun _ _ _ h=>h) (Or.inr ⟨by rfl,rfl⟩) ?_ ?_;rotate_left
     · simp only [Act.put,List.setIfInBounds_toArray,List.set_cons_zero,List.set_cons_succ,i64_w];rfl
     refine pz 21 31 HT_.out ?_;refine done_ (done_of HT_.out (by kernel_rfl)) ?_;try go_wp2
     go_ret
     exact ⟨xz,bz⟩
   subst c5;rw [if_pos rfl] at H;replace H:=Option.bind_eq_some_iff.mp H;obtain ⟨t200,A60,H⟩:=H;have A6:=Aside0.mk A60;clear A60;by_cases c7:t200=true;rotate_left
   · replace c7:=Bool.eq_false_iff.mpr c7;subst c7;rw [if_neg (show ¬ (false=true) by decide)] at H;obtain rfl:=Option.some.inj H;try go_wp2
     replace HB:=Aside0.mk (below_drew1 HB.out);have p196:0≤(x3_1:Int):=of_decide_eq_true az;have q196:x3_1<(l0.length:Int):=of_decide_eq_true az;obtain ⟨ad196,e196,hx196_0,hx196_1,hx196_2⟩:=at_T113 HR0.out x3_1 p196 q196;have hw196_2:=hx196_2;have hw196_1:=hx196_1;have hw196_0:=hx196_0;cases e196
     replace hx196_0:=(HB.out.cell (World.block_lt_of_cell? w _ hx196_0)).trans hx196_0;replace hx196_1:=(HB.out.cell (World.block_lt_of_cell? w _ hx196_1)).trans hx196_1;replace hx196_2:=(HB.out.cell (World.block_lt_of_cell? w _ hx196_2)).trans hx196_2;replace p196:=eq_true p196;replace q196:=eq_true q196;have p197:0≤(x3_1:Int):=of_decide_eq_true az;have q197:x3_1<(l0.length:Int):=of_decide_eq_true az;obtain ⟨ad197,e197,hx197_0,hx197_1,hx197_2⟩:=at_T113 HR0.out x3_1 p197 q197;have hw197_2:=hx197_2;have hw197_1:=hx197_1;have hw197_0:=hx197_0;obtain rfl:ad196=ad197:=(by injection e197);replace hx197_0:=(HB.out.cell (World.block_lt_of_cell? w _ hx197_0)).trans hx197_0;replace hx197_1:=(HB.out.cell (World.block_lt_of_cell? w _ hx197_1)).trans hx197_1;replace hx197_2:=(HB.out.cell (World.block_lt_of_cell? w _ hx197_2)).trans hx197_2;replace p197:=eq_true p197;replace q197:=eq_true q197;have p199:0≤(x3_1:Int):=of_decide_eq_true az;have q199:x3_1<(l0.length:Int):=of_decide_eq_true az;obtain ⟨ad199,e199,hx199_0,hx199_1,hx199_2⟩:=at_T113 HR0.out x3_1 p199 q199;have hw199_2:=hx199_2;have hw199_1:=hx199_1;have hw199_0:=hx199_0;obtain rfl:ad196=ad199:=(by injection e199);replace hx199_0:=(HB.out.cell (World.block_lt_of_cell? w _ hx199_0)).trans hx199_0;replace hx199_1:=(HB.out.cell (World.block_lt_of_cell? w _ hx199_1)).trans hx199_1;replace hx199_2:=(HB.out.cell (World.block_lt_of_cell? w _ hx199_2)).trans hx199_2;replace p199:=eq_true p199;replace q199:=eq_true q199;refine start_ (n:=22) (S:=fun w'=>w'.cell? (ad196.add ((x3_1).toNat*3))=some (.int .i64 ((rd_T113 l0 x3_1).f0))∧w'.cell? ⟨(ad196.add ((x3_1).toNat*3)).block,(ad196.add ((x3_1).toNat*3)).off+1,none⟩=some (.int .i64 ((rd_T113 l0 x3_1).f1))∧w'.cell? ⟨(ad196.add ((x3_1).toNat*3)).block,(ad196.add ((x3_1).toNat*3)).off+2,none⟩=some (.int .i64 ((rd_T113 l0 x3_1).f2))∧w'.cell? (ad196.add ((x3_1).toNat*3))=some (.int .i64 ((rd_T113 l0 x3_1).f0))∧w'.cell? ⟨(ad196.add ((x3_1).toNat*3)).block,(ad196.add ((x3_1).toNat*3)).off+1,none⟩=some (.int .i64 ((rd_T113 l0 x3_1).f1))∧w'.cell? ⟨(ad196.add ((x3_1).toNat*3)).block,(ad196.add ((x3_1).toNat*3)).off+2,none⟩=some (.int .i64 ((rd_T113 l0 x3_1).f2))∧w'.cell? (ad196.add ((x3_1).toNat*3))=some (.int .i64 ((rd_T113 l0 x3_1).f0))∧w'.cell? ⟨(ad196.add ((x3_1).toNat*3)).block,(ad196.add ((x3_1).toNat*3)).off+1,none⟩=some (.int .i64 ((rd_T113 l0 x3_1).f1))∧w'.cell? ⟨(ad196.add ((x3_1).toNat*3)).block,(ad196.add ((x3_1).toNat*3)).off+2,none⟩=some (.int .i64 ((rd_T113 l0 x3_1).f2))) (ds:=[]) #[false,false,false,false,false,false,false,false,false,false,false,false,false,false,false,false,false,false,false,false,false,false] (by kernel_rfl) rfl rfl ⟨((HB.out.cell (World.block_lt_of_cell? w _ hw196_0)).trans hw196_0),((HB.out.cell (World.block_lt_of_cell? w _ hw196_1)).trans hw196_1),((HB.out.cell (World.block_lt_of_cell? w _ hw196_2)).trans hw196_2),((HB.out.cell (World.block_lt_of_cell? w _ hw197_0)).trans hw197_0),((HB.out.cell (World.block_lt_of_cell? w _ hw197_1)).trans hw197_1),((HB.out.cell (World.block_lt_of_cell? w _ hw197_2)).trans hw197_2),((HB.out.cell (World.block_lt_of_cell? w _ hw199_0)).trans hw199_0),((HB.out.cell (World.block_lt_of_cell? w _ hw199_1)).trans hw199_1),((HB.out.cell (World.block_lt_of_cell? w _ hw199_2)).trans hw199_2)⟩ (fun hHeld => ?_);refine with_tabW riposteref24_isPath.tab4 riposteref24_isPath.bits4 (fun HT_ HW_ => ?_);generalize wr.drew=w10 at HB hx196_0 hx196_1 hx196_2 hx197_0 hx197_1 hx197_2 hx199_0 hx199_1 hx199_2 hHeld ⊢;refine pz 0 10 HT_.out ?_;refine pz 1 11 HT_.out ?_;refine pz 2 12 HT_.out ?_;refine pz 3 13 HT_.out ?_;refine pz 5 15 HT_.out ?_;refine pz 6 16 HT_.out ?_;refine pz 7 17 HT_.out ?_;refine pz 8 18 HT_.out ?_;refine tz9 4 14 HT_.out HW_.out hHeld ?_;refine tz9 9 19 HT_.out HW_.out hHeld ?_;refine pz 10 20 HT_.out ?_;refine one_ (i:=11) (N:=some 21) #[true,true,true,true,true,true,true,true,true,true,true,true,false,false,false,false,false,false,false,false,false,false] rfl rfl (one_of HT_.out (by kernel_rfl)) (by decide) (fun K hK => ?_);refine goes_ Tryz.func21 (by kernel_rfl) rfl #[.agg #[.int .i64 ((rd_T113 l0 x3_1).f0),.int .i64 ((rd_T113 l0 x3_1).f1)]] (by rfl) rfl rfl lz ?_;with_reducible refine (riposteref24_isPlace.calls ((rd_T113 l0 x3_1).f0) ((rd_T113 l0 x3_1).f1) true _ A4.out).mono ?_
     rintro e w11 ⟨rfl,hb⟩;refine ⟨_,rfl,?_⟩;replace HB:=Aside0.mk (below_step bz hb);(try clear hb);(try clear hb2);(try clear hk);(try clear hi);refine hK.out _ _ ⟨((HB.out.cell (World.block_lt_of_cell? w _ hw196_0)).trans hw196_0),((HB.out.cell (World.block_lt_of_cell? w _ hw196_1)).trans hw196_1),((HB.out.cell (World.block_lt_of_cell? w _ hw196_2)).trans hw196_2),((HB.out.cell (World.block_lt_of_cell? w _ hw197_0)).trans hw197_0),((HB.out.cell (World.block_lt_of_cell? w _ hw197_1)).trans hw197_1),((HB.out.cell (World.block_lt_of_cell? w _ hw197_2)).trans hw197_2),((HB.out.cell (World.block_lt_of_cell? w _ hw199_0)).trans hw199_0),((HB.out.cell (World.block_lt_of_cell? w _ hw199_1)).trans hw199_1),((HB.out.cell (World.block_lt_of_cell? w _ hw199_2)).trans hw199_2)⟩ (fun hHeld => ?_);clear hK K;refine nz ?_;refine pz 12 22 HT_.out ?_;refine pz 13 23 HT_.out ?_;refine pz 14 24 HT_.out ?_;refine pz 15 25 HT_.out ?_;refine pz 16 26 HT_.out ?_;refine pz 17 27 HT_.out ?_;refine tz9 18 28 HT_.out HW_.out hHeld ?_;refine one_ (i:=19) (N:=some 29) #[true,true,true,true,true,true,true,true,true,true,true,true,true,true,true,true,true,true,true,true,false,false] rfl rfl (one_of HT_.out (by kernel_rfl)) (by decide) (fun K hK => ?_);refine goes_ Tryz.func20 (by kernel_rfl) rfl #[.int .i64 ((rd_T113 l0 x3_1).f2),.int .i64 0,.int .i64 5] (by rfl) rfl rfl lz ?_;with_reducible refine (riposteref16_In.calls ((rd_T113 l0 x3_1).f2) 0 5 false _ A6.out).mono ?_
     rintro e w' ⟨rfl,⟨nd,rfl⟩⟩;refine ⟨_,rfl,?_⟩;refine hK.out _ _ ⟨((HB.out.cell (World.block_lt_of_cell? w _ hw196_0)).trans hw196_0),((HB.out.cell (World.block_lt_of_cell? w _ hw196_1)).trans hw196_1),((HB.out.cell (World.block_lt_of_cell? w _ hw196_2)).trans hw196_2),((HB.out.cell (World.block_lt_of_cell? w _ hw197_0)).trans hw197_0),((HB.out.cell (World.block_lt_of_cell? w _ hw197_1)).trans hw197_1),((HB.out.cell (World.block_lt_of_cell? w _ hw197_2)).trans hw197_2),((HB.out.cell (World.block_lt_of_cell? w _ hw199_0)).trans hw199_0),((HB.out.cell (World.block_lt_of_cell? w _ hw199_1)).trans hw199_1),((HB.out.cell (World.block_lt_of_cell? w _ hw199_2)).trans hw199_2)⟩ (fun hHeld => ?_);clear hK K;refine nz ?_;refine pz 20 30 HT_.out ?_;refine pz 21 31 HT_.out ?_;refine done_ (done_of HT_.out (by kernel_rfl)) ?_;try go_wp2
     go_ret
     exact ⟨xz,bz⟩
   subst c7;rw [if_pos rfl] at H;have H':=Aside0.mk H;clear H;try go_wp2
   replace HB:=Aside0.mk (below_drew1 HB.out);have p196:0≤(x3_1:Int):=of_decide_eq_true az;have q196:x3_1<(l0.length:Int):=of_decide_eq_true az;obtain ⟨ad196,e196,hx196_0,hx196_1,hx196_2⟩:=at_T113 HR0.out x3_1 p196 q196;have hw196_2:=hx196_2;have hw196_1:=hx196_1;have hw196_0:=hx196_0;cases e196
   replace hx196_0:=(HB.out.cell (World.block_lt_of_cell? w _ hx196_0)).trans hx196_0;replace hx196_1:=(HB.out.cell (World.block_lt_of_cell? w _ hx196_1)).trans hx196_1;replace hx196_2:=(HB.out.cell (World.block_lt_of_cell? w _ hx196_2)).trans hx196_2;replace p196:=eq_true p196;replace q196:=eq_true q196;have p197:0≤(x3_1:Int):=of_decide_eq_true az;have q197:x3_1<(l0.length:Int):=of_decide_eq_true az;obtain ⟨ad197,e197,hx197_0,hx197_1,hx197_2⟩:=at_T113 HR0.out x3_1 p197 q197;have hw197_2:=hx197_2;have hw197_1:=hx197_1;have hw197_0:=hx197_0;obtain rfl:ad196=ad197:=(by injection e197);replace hx197_0:=(HB.out.cell (World.block_lt_of_cell? w _ hx197_0)).trans hx197_0;replace hx197_1:=(HB.out.cell (World.block_lt_of_cell? w _ hx197_1)).trans hx197_1;replace hx197_2:=(HB.out.cell (World.block_lt_of_cell? w _ hx197_2)).trans hx197_2;replace p197:=eq_true p197;replace q197:=eq_true q197;have p199:0≤(x3_1:Int):=of_decide_eq_true az;have q199:x3_1<(l0.length:Int):=of_decide_eq_true az;obtain ⟨ad199,e199,hx199_0,hx199_1,hx199_2⟩:=at_T113 HR0.out x3_1 p199 q199;have hw199_2:=hx199_2;have hw199_1:=hx199_1;have hw199_0:=hx199_0;obtain rfl:ad196=ad199:=(by injection e199);replace hx199_0:=(HB.out.cell (World.block_lt_of_cell? w _ hx199_0)).trans hx199_0;replace hx199_1:=(HB.out.cell (World.block_lt_of_cell? w _ hx199_1)).trans hx199_1;replace hx199_2:=(HB.out.cell (World.block_lt_of_cell? w _ hx199_2)).trans hx199_2;replace p199:=eq_true p199;replace q199:=eq_true q199;refine start_ (n:=22) (S:=fun w'=>w'.cell? (ad196.add ((x3_1).toNat*3))=some (.int .i64 ((rd_T113 l0 x3_1).f0))∧w'.cell? ⟨(ad196.add ((x3_1).toNat*3)).block,(ad196.add ((x3_1).toNat*3)).off+1,none⟩=some (.int .i64 ((rd_T113 l0 x3_1).f1))∧w'.cell? ⟨(ad196.add ((x3_1).toNat*3)).block,(ad196.add ((x3_1).toNat*3)).off+2,none⟩=some (.int .i64 ((rd_T113 l0 x3_1).f2))∧w'.cell? (ad196.add ((x3_1).toNat*3))=some (.int .i64 ((rd_T113 l0 x3_1).f0))∧w'.cell? ⟨(ad196.add ((x3_1).toNat*3)).block,(ad196.add ((x3_1).toNat*3)).off+1,none⟩=some (.int .i64 ((rd_T113 l0 x3_1).f1))∧w'.cell? ⟨(ad196.add ((x3_1).toNat*3)).block,(ad196.add ((x3_1).toNat*3)).off+2,none⟩=some (.int .i64 ((rd_T113 l0 x3_1).f2))∧w'.cell? (ad196.add ((x3_1).toNat*3))=some (.int .i64 ((rd_T113 l0 x3_1).f0))∧w'.cell? ⟨(ad196.add ((x3_1).toNat*3)).block,(ad196.add ((x3_1).toNat*3)).off+1,none⟩=some (.int .i64 ((rd_T113 l0 x3_1).f1))∧w'.cell? ⟨(ad196.add ((x3_1).toNat*3)).block,(ad196.add ((x3_1).toNat*3)).off+2,none⟩=some (.int .i64 ((rd_T113 l0 x3_1).f2))) (ds:=[]) #[false,false,false,false,false,false,false,false,false,false,false,false,false,false,false,false,false,false,false,false,false,false] (by kernel_rfl) rfl rfl ⟨((HB.out.cell (World.block_lt_of_cell? w _ hw196_0)).trans hw196_0),((HB.out.cell (World.block_lt_of_cell? w _ hw196_1)).trans hw196_1),((HB.out.cell (World.block_lt_of_cell? w _ hw196_2)).trans hw196_2),((HB.out.cell (World.block_lt_of_cell? w _ hw197_0)).trans hw197_0),((HB.out.cell (World.block_lt_of_cell? w _ hw197_1)).trans hw197_1),((HB.out.cell (World.block_lt_of_cell? w _ hw197_2)).trans hw197_2),((HB.out.cell (World.block_lt_of_cell? w _ hw199_0)).trans hw199_0),((HB.out.cell (World.block_lt_of_cell? w _ hw199_1)).trans hw199_1),((HB.out.cell (World.block_lt_of_cell? w _ hw199_2)).trans hw199_2)⟩ (fun hHeld => ?_);refine with_tabW riposteref24_isPath.tab4 riposteref24_isPath.bits4 (fun HT_ HW_ => ?_);generalize wr.drew=w8 at HB hx196_0 hx196_1 hx196_2 hx197_0 hx197_1 hx197_2 hx199_0 hx199_1 hx199_2 hHeld ⊢;refine pz 0 10 HT_.out ?_;refine pz 1 11 HT_.out ?_;refine pz 2 12 HT_.out ?_;refine pz 3 13 HT_.out ?_;refine pz 5 15 HT_.out ?_;refine pz 6 16 HT_.out ?_;refine pz 7 17 HT_.out ?_;refine pz 8 18 HT_.out ?_;refine tz9 4 14 HT_.out HW_.out hHeld ?_;refine tz9 9 19 HT_.out HW_.out hHeld ?_;refine pz 10 20 HT_.out ?_;refine one_ (i:=11) (N:=some 21) #[true,true,true,true,true,true,true,true,true,true,true,true,false,false,false,false,false,false,false,false,false,false] rfl rfl (one_of HT_.out (by kernel_rfl)) (by decide) (fun K hK => ?_);refine goes_ Tryz.func21 (by kernel_rfl) rfl #[.agg #[.int .i64 ((rd_T113 l0 x3_1).f0),.int .i64 ((rd_T113 l0 x3_1).f1)]] (by rfl) rfl rfl lz ?_;with_reducible refine (riposteref24_isPlace.calls ((rd_T113 l0 x3_1).f0) ((rd_T113 l0 x3_1).f1) true _ A4.out).mono ?_
   rintro e w9 ⟨rfl,hb⟩;refine ⟨_,rfl,?_⟩;replace HB:=Aside0.mk (below_step bz hb);(try clear hb);(try clear hb2);(try clear hk);(try clear hi);refine hK.out _ _ ⟨((HB.out.cell (World.block_lt_of_cell? w _ hw196_0)).trans hw196_0),((HB.out.cell (World.block_lt_of_cell? w _ hw196_1)).trans hw196_1),((HB.out.cell (World.block_lt_of_cell? w _ hw196_2)).trans hw196_2),((HB.out.cell (World.block_lt_of_cell? w _ hw197_0)).trans hw197_0),((HB.out.cell (World.block_lt_of_cell? w _ hw197_1)).trans hw197_1),((HB.out.cell (World.block_lt_of_cell? w _ hw197_2)).trans hw197_2),((HB.out.cell (World.block_lt_of_cell? w _ hw199_0)).trans hw199_0),((HB.out.cell (World.block_lt_of_cell? w _ hw199_1)).trans hw199_1),((HB.out.cell (World.block_lt_of_cell? w _ hw199_2)).trans hw199_2)⟩ (fun hHeld => ?_);clear hK K;refine nz ?_;refine pz 12 22 HT_.out ?_;refine pz 13 23 HT_.out ?_;refine pz 14 24 HT_.out ?_;refine pz 15 25 HT_.out ?_;refine pz 16 26 HT_.out ?_;refine pz 17 27 HT_.out ?_;refine tz9 18 28 HT_.out HW_.out hHeld ?_;refine one_ (i:=19) (N:=some 29) #[true,true,true,true,true,true,true,true,true,true,true,true,true,true,true,true,true,true,true,true,false,false] rfl rfl (one_of HT_.out (by kernel_rfl)) (by decide) (fun K hK => ?_);refine goes_ Tryz.func20 (by kernel_rfl) rfl #[.int .i64 ((rd_T113 l0 x3_1).f2),.int .i64 0,.int .i64 5] (by rfl) rfl rfl lz ?_;with_reducible refine (riposteref16_In.calls ((rd_T113 l0 x3_1).f2) 0 5 true _ A6.out).mono ?_
   rintro e w' ⟨rfl,⟨nd,rfl⟩⟩;refine ⟨_,rfl,?_⟩;refine hK.out _ _ ⟨((HB.out.cell (World.block_lt_of_cell? w _ hw196_0)).trans hw196_0),((HB.out.cell (World.block_lt_of_cell? w _ hw196_1)).trans hw196_1),((HB.out.cell (World.block_lt_of_cell? w _ hw196_2)).trans hw196_2),((HB.out.cell (World.block_lt_of_cell? w _ hw197_0)).trans hw197_0),((HB.out.cell (World.block_lt_of_cell? w _ hw197_1)).trans hw197_1),((HB.out.cell (World.block_lt_of_cell? w _ hw197_2)).trans hw197_2),((HB.out.cell (World.block_lt_of_cell? w _ hw199_0)).trans hw199_0),((HB.out.cell (World.block_lt_of_cell? w _ hw199_1)).trans hw199_1),((HB.out.cell (World.block_lt_of_cell? w _ hw199_2)).trans hw199_2)⟩ (fun hHeld => ?_);clear hK K;refine nz ?_;refine pz 20 30 HT_.out ?_;refine pz 21 31 HT_.out ?_;refine done_ (done_of HT_.out (by kernel_rfl)) ?_;try go_wp2
   go_roundg k1
   case measure=>have:=HK1.out;omega
   case rel=>exact ⟨(wrap64 (x3_1+1)),(by first | rfl | (simp;done) | (simp [*];done)),H',⟨by have:=HK1.out;omega⟩,⟨bz⟩⟩
end Go.Proofs.YtmcfpcgpjppfkaaGreatDoor.PB
namespace Go.Proofs.YtmcfpcgpjppfkaaGreatDoor.PB
open Go.RowKit Go.Proofs.YtmcfpcgpjppfkaaGreatDoorW.PrintWords Go.Proofs.YtmcfpcgpjppfkaaGreatDoorW.PrintLast
set_option linter.unusedVariables false
set_option linter.unusedSimpArgs false
def riposteref24_pathBytes.l0:Nat→List (S113)→List Int→Int→Option (List Int)
  | 0,_,_,_=>none
  | k+1,x0,x3,x4=>if x4<(x0.length:Int) then (if 0≤x4 then ((some (([((rd_T113 x0 x4).f0) % 256,((rd_T113 x0 x4).f2) % 256]:List Int):List Int)).bind fun y209=>(if x3.length+y209.length<140737488355328 then ((some (x3 ++ y209:List Int)).bind fun y212=>((riposteref24_two.f ((rd_T113 x0 x4).f1)).bind fun t216=>(if y212.length+t216.length<140737488355328 then (riposteref24_pathBytes.l0 k x0 (y212 ++ t216) (wrap64 (x4+1))) else (none)))) else (none))) else (none)) else (some x3)
def riposteref24_pathBytes.f (k:Nat) (l0:List (S113)):Option (List Int):=riposteref24_pathBytes.l0 k l0 (([((l0.length:Int)) % 256]:List Int)) 0
theorem riposteref24_pathBytes.mono_l : ∀ k,(∀ y0 y1 y2,LeO (riposteref24_pathBytes.l0 k y0 y1 y2) (riposteref24_pathBytes.l0 (k+1) y0 y1 y2))
  | 0=>fun _ _ _ r h=>by simp [riposteref24_pathBytes.l0] at h
  | k+1=>by
    have ih0:=riposteref24_pathBytes.mono_l k
    · intro y0 y1 y2
      unfold riposteref24_pathBytes.l0
      repeat' first
      | (with_reducible exact ih0 _ _ _)
      | (with_reducible exact LeO.refl _)
      | (with_reducible exact LeO.none _)
      | (with_reducible refine LeO.ite ?_ ?_)
      | (with_reducible refine LeO.bind ?_ (fun _ => ?_))
      | exact ih0 _ _ _
      | exact LeO.none _
      | refine LeO.ite ?_ ?_
      | refine LeO.bind ?_ (fun _ => ?_)
theorem riposteref24_pathBytes.mono : ∀ a0 k,LeO (riposteref24_pathBytes.f k a0) (riposteref24_pathBytes.f (k+1) a0):=by
 intro a0 k;have ih0:=riposteref24_pathBytes.mono_l k;unfold riposteref24_pathBytes.f
 repeat' first
   | (with_reducible exact ih0 _ _ _)
   | (with_reducible exact LeO.refl _)
   | (with_reducible exact LeO.none _)
   | (with_reducible refine LeO.ite ?_ ?_)
   | (with_reducible refine LeO.bind ?_ (fun _ => ?_))
   | exact ih0 _ _ _
   | exact LeO.none _
   | refine LeO.ite ?_ ?_
   | refine LeO.bind ?_ (fun _ => ?_)
def riposteref24_pathBytes.T5:Bool × List (List Nat × List Nat):=(true,[([],[]),([],[]),([],[]),([1,2],[1,2]),([3],[3]),([4],[4]),([5],[5]),([],[]),([],[]),([7,8],[7,8]),([9],[9]),([10],[10]),([11],[11]),([6,12],[6,12]),([0,13],[0,13]),([],[]),([],[]),([15,16],[15,16]),([17],[17]),([18],[18]),([19,14],[19]),([14,20,20],[14,20]),([21,21,0,1,2,3,4,5,6,7,8,9,10,11,12,13,14,15,16,17,18,19,20,21],[0,21])])
def riposteref24_pathBytes.B5:List Nat:=[0,0,0,6,14,30,62,0,0,384,896,1920,3968,8190,16383,0,0,98304,229376,491520,1048575,2097151,4194303]
theorem riposteref24_pathBytes.tab5:rtab .any (opsOf Tryz.f24 5)=riposteref24_pathBytes.T5:=by kernel_rfl
theorem riposteref24_pathBytes.bits5:waitsOk riposteref24_pathBytes.T5.2 riposteref24_pathBytes.B5=true:=by kernel_rfl
set_option maxHeartbeats 8000000 in
set_option maxRecDepth 100000 in
theorem riposteref24_pathBytes.calls (k:Nat) (A0:Option Addr) (c0:Nat) (l0:List (S113)) (r:List Int) (w:World) (hr0:Kd.C k113 w A0 l0.length l0) (hc0:l0.length≤c0) (h:riposteref24_pathBytes.f k l0=some r) :
    Calls Tryz.prog 24 #[.slice A0 l0.length c0] w fun e w' => ∃ v0_:Value,e=.returned (v0_)∧Kd.R (Kd.int .u8) 5 w' w.heap.size (fun _=>True) v0_ r∧Below w.heap.size w w':=by
 have HR0:=Aside0.mk hr0;have HC0:=Aside0.mk hc0;clear hr0 hc0;have HB:=Aside0.mk (Below.refl w.heap.size w);have H:=h;unfold riposteref24_pathBytes.f at H;clear h;obtain ⟨y204,hy204⟩ : ∃ y_:List Int,y_=(([((l0.length:Int)) % 256]:List Int)):=⟨_,rfl⟩
 replace H:(riposteref24_pathBytes.l0 k l0 y204 0)=some r:=wz hy204;have Ny204:=Aside0.mk hy204;clear hy204;have H':=Aside0.mk H;clear H;go_enter Tryz.func24,Tryz.ntmps24
 go_wp2_with (first | ((with_reducible refine gate_dst (N:=8) rfl ?_);refine Kd.R_lit (Kd.int .u8) _ 5 ?hg (N:=8) ?hd (xs:=([((l0.length:Int)) % 256]:List Int)) (inner:=[.int .u8 (((l0.length:Int)) % 256)]) (ok:=fun _=>True) (okp:=fun _=>True) ?hr ?hp (fun _ hk=>hk) trivial (Below.refl _ _) (Nat.le_refl _) (by simp) ?_;(case hd=>rfl);(case hg=>rfl);(case hr=>exact hz);(case hp=>exact (Reps.one (show Kd.M (Kd.int .u8) _ _ _ (((l0.length:Int)) % 256) [.int .u8 (((l0.length:Int)) % 256)] from rfl) (Reps.none _ _)));intro v205 w2 ho3 hb hg_ hnew_;clear hg_ hnew_;(first | rw [← Ny204.out] at ho3 | (simp only [Int.reduceToNat] at ho3;rw [← Ny204.out] at ho3));have HO206:=Aside0.mk (Kd.R_lower ho3 (below_size bz));replace HB:=Aside0.mk (below_step bz hb);clear hb ho3))
 go_loopg [3,4] k (fun kq v3 v4 w' => ∃ (x3_1:List Int) (x4_1:Int),v4=.int .i64 x4_1∧Aside0 (riposteref24_pathBytes.l0 kq l0 x3_1 x4_1=some r)∧Aside0 (kq≤k)∧Aside0 (Kd.R (Kd.int .u8) 5 w' w.heap.size (fun _=>True) v3 x3_1)∧Aside0 (Below w.heap.size w w'))
 case atStart=>exact ⟨(y204),(0),(by first | rfl | (simp;done) | (simp [*];done)),H',⟨Nat.le_refl _⟩,⟨rz HO206⟩,⟨bz⟩⟩
 case round =>
  clear H';try clear c1
  try clear p2
  obtain ⟨x3_1,x4_1,rfl,HA,HK1,HO_3,HB⟩:=hrel;cases gk with
  | zero=>exact absurd HA.out (by simp [riposteref24_pathBytes.l0])
  | succ k1 =>
   have H:=HA.out;clear HA;simp only [riposteref24_pathBytes.l0] at H;by_cases c4:x4_1<(l0.length:Int);rotate_left
   · rw [if_neg c4] at H;have c4b0:decide (x4_1<(l0.length:Int))=false:=decide_eq_false c4;clear c4;obtain rfl:=Option.some.inj H;go_wp2
     go_ret
     exact ⟨_,xz,rz HO_3,bz⟩
   rw [if_pos c4] at H;have c4b0:decide (x4_1<(l0.length:Int))=true:=decide_eq_true c4;clear c4;by_cases c5:0≤x4_1;rotate_left
   · rw [if_neg c5] at H;exact absurd H (by simp)
   rw [if_pos c5] at H;have c5b0:decide (0≤x4_1)=true:=decide_eq_true c5;clear c5;obtain ⟨y209,hy209⟩ : ∃ y_:List Int,y_=(([((rd_T113 l0 x4_1).f0) % 256,((rd_T113 l0 x4_1).f2) % 256]:List Int)):=⟨_,rfl⟩
   replace H:(if x3_1.length+y209.length<140737488355328 then ((some (x3_1 ++ y209:List Int)).bind fun y212=>((riposteref24_two.f ((rd_T113 l0 x4_1).f1)).bind fun t216=>(if y212.length+t216.length<140737488355328 then (riposteref24_pathBytes.l0 k1 l0 (y212 ++ t216) (wrap64 (x4_1+1))) else (none)))) else (none))=some r:=wz hy209;have Ny209:=Aside0.mk hy209;clear hy209;by_cases c6:x3_1.length+y209.length<140737488355328;rotate_left
   · rw [if_neg c6] at H;exact absurd H (by simp)
   rw [if_pos c6] at H;have LMc6:=Aside0.mk c6;clear c6;obtain ⟨y212,hy212⟩ : ∃ y_:List Int,y_=(x3_1 ++ y209):=⟨_,rfl⟩
   replace H:((riposteref24_two.f ((rd_T113 l0 x4_1).f1)).bind fun t216=>(if y212.length+t216.length<140737488355328 then (riposteref24_pathBytes.l0 k1 l0 (y212 ++ t216) (wrap64 (x4_1+1))) else (none)))=some r:=wz hy212;have Ny212:=Aside0.mk hy212;clear hy212;replace H:=Option.bind_eq_some_iff.mp H;obtain ⟨t216,A70,H⟩:=H;have A7:=Aside0.mk A70;clear A70;by_cases c8:y212.length+t216.length<140737488355328;rotate_left
   · rw [if_neg c8] at H;exact absurd H (by simp)
   rw [if_pos c8] at H;have LMc8:=Aside0.mk c8;clear c8;obtain ⟨y219,hy219⟩ : ∃ y_:List Int,y_=(y212 ++ t216):=⟨_,rfl⟩
   replace H:(riposteref24_pathBytes.l0 k1 l0 y219 (wrap64 (x4_1+1)))=some r:=wz hy219;have Ny219:=Aside0.mk hy219;clear hy219;have H':=Aside0.mk H;clear H;try go_wp2
   replace HO_3:=Aside0.mk (Kd.R_drew HO_3.out);replace HB:=Aside0.mk (below_drew1 HB.out);have p207:0≤(x4_1:Int):=of_decide_eq_true az;have q207:x4_1<(l0.length:Int):=of_decide_eq_true az;obtain ⟨ad207,e207,hx207_0,hx207_1,hx207_2⟩:=at_T113 HR0.out x4_1 p207 q207;have hw207_2:=hx207_2;have hw207_1:=hx207_1;have hw207_0:=hx207_0;cases e207
   replace hx207_0:=(HB.out.cell (World.block_lt_of_cell? w _ hx207_0)).trans hx207_0;replace hx207_1:=(HB.out.cell (World.block_lt_of_cell? w _ hx207_1)).trans hx207_1;replace hx207_2:=(HB.out.cell (World.block_lt_of_cell? w _ hx207_2)).trans hx207_2;replace p207:=eq_true p207;replace q207:=eq_true q207;have p208:0≤(x4_1:Int):=of_decide_eq_true az;have q208:x4_1<(l0.length:Int):=of_decide_eq_true az;obtain ⟨ad208,e208,hx208_0,hx208_1,hx208_2⟩:=at_T113 HR0.out x4_1 p208 q208;have hw208_2:=hx208_2;have hw208_1:=hx208_1;have hw208_0:=hx208_0;obtain rfl:ad207=ad208:=(by injection e208);replace hx208_0:=(HB.out.cell (World.block_lt_of_cell? w _ hx208_0)).trans hx208_0;replace hx208_1:=(HB.out.cell (World.block_lt_of_cell? w _ hx208_1)).trans hx208_1;replace hx208_2:=(HB.out.cell (World.block_lt_of_cell? w _ hx208_2)).trans hx208_2;replace p208:=eq_true p208;replace q208:=eq_true q208;have p215:0≤(x4_1:Int):=of_decide_eq_true az;have q215:x4_1<(l0.length:Int):=of_decide_eq_true az;obtain ⟨ad215,e215,hx215_0,hx215_1,hx215_2⟩:=at_T113 HR0.out x4_1 p215 q215;have hw215_2:=hx215_2;have hw215_1:=hx215_1;have hw215_0:=hx215_0;obtain rfl:ad207=ad215:=(by injection e215);replace hx215_0:=(HB.out.cell (World.block_lt_of_cell? w _ hx215_0)).trans hx215_0;replace hx215_1:=(HB.out.cell (World.block_lt_of_cell? w _ hx215_1)).trans hx215_1;replace hx215_2:=(HB.out.cell (World.block_lt_of_cell? w _ hx215_2)).trans hx215_2;replace p215:=eq_true p215;replace q215:=eq_true q215;refine start_ (n:=23) (S:=fun w'=>w'.cell? (ad207.add ((x4_1).toNat*3))=some (.int .i64 ((rd_T113 l0 x4_1).f0))∧w'.cell? ⟨(ad207.add ((x4_1).toNat*3)).block,(ad207.add ((x4_1).toNat*3)).off+1,none⟩=some (.int .i64 ((rd_T113 l0 x4_1).f1))∧w'.cell? ⟨(ad207.add ((x4_1).toNat*3)).block,(ad207.add ((x4_1).toNat*3)).off+2,none⟩=some (.int .i64 ((rd_T113 l0 x4_1).f2))∧w'.cell? (ad207.add ((x4_1).toNat*3))=some (.int .i64 ((rd_T113 l0 x4_1).f0))∧w'.cell? ⟨(ad207.add ((x4_1).toNat*3)).block,(ad207.add ((x4_1).toNat*3)).off+1,none⟩=some (.int .i64 ((rd_T113 l0 x4_1).f1))∧w'.cell? ⟨(ad207.add ((x4_1).toNat*3)).block,(ad207.add ((x4_1).toNat*3)).off+2,none⟩=some (.int .i64 ((rd_T113 l0 x4_1).f2))∧w'.cell? (ad207.add ((x4_1).toNat*3))=some (.int .i64 ((rd_T113 l0 x4_1).f0))∧w'.cell? ⟨(ad207.add ((x4_1).toNat*3)).block,(ad207.add ((x4_1).toNat*3)).off+1,none⟩=some (.int .i64 ((rd_T113 l0 x4_1).f1))∧w'.cell? ⟨(ad207.add ((x4_1).toNat*3)).block,(ad207.add ((x4_1).toNat*3)).off+2,none⟩=some (.int .i64 ((rd_T113 l0 x4_1).f2))) (ds:=[]) #[false,false,false,false,false,false,false,false,false,false,false,false,false,false,false,false,false,false,false,false,false,false,false] (by kernel_rfl) rfl rfl ⟨((HB.out.cell (World.block_lt_of_cell? w _ hw207_0)).trans hw207_0),((HB.out.cell (World.block_lt_of_cell? w _ hw207_1)).trans hw207_1),((HB.out.cell (World.block_lt_of_cell? w _ hw207_2)).trans hw207_2),((HB.out.cell (World.block_lt_of_cell? w _ hw208_0)).trans hw208_0),((HB.out.cell (World.block_lt_of_cell? w _ hw208_1)).trans hw208_1),((HB.out.cell (World.block_lt_of_cell? w _ hw208_2)).trans hw208_2),((HB.out.cell (World.block_lt_of_cell? w _ hw215_0)).trans hw215_0),((HB.out.cell (World.block_lt_of_cell? w _ hw215_1)).trans hw215_1),((HB.out.cell (World.block_lt_of_cell? w _ hw215_2)).trans hw215_2)⟩ (fun hHeld => ?_);refine with_tabW riposteref24_pathBytes.tab5 riposteref24_pathBytes.bits5 (fun HT_ HW_ => ?_);generalize wr.drew=w9 at HO_3 HB hx207_0 hx207_1 hx207_2 hx208_0 hx208_1 hx208_2 hx215_0 hx215_1 hx215_2 hHeld ⊢;refine pz 0 15 HT_.out ?_;refine pz 1 16 HT_.out ?_;refine pz 2 17 HT_.out ?_;refine pz 3 18 HT_.out ?_;refine pz 4 19 HT_.out ?_;refine pz 7 22 HT_.out ?_;refine pz 8 23 HT_.out ?_;refine pz 9 24 HT_.out ?_;refine pz 10 25 HT_.out ?_;refine pz 15 30 HT_.out ?_;refine pz 16 31 HT_.out ?_;refine pz 17 32 HT_.out ?_;refine pz 18 33 HT_.out ?_;refine tz9 5 20 HT_.out HW_.out hHeld ?_;refine pz 6 21 HT_.out ?_;refine tz9 11 26 HT_.out HW_.out hHeld ?_;refine pz 12 27 HT_.out ?_;refine tz9 19 34 HT_.out HW_.out hHeld ?_;refine one_ (i:=13) (N:=some 28) #[true,true,true,true,true,true,true,true,true,true,true,true,true,true,false,true,true,true,true,true,false,false,false] rfl rfl (one_of HT_.out (by kernel_rfl)) (by decide) (fun K hK => ?_);refine Kd.R_lit_step (Kd.int .u8) _ 5 ?hg (N:=28) ?hd (xs:=([((rd_T113 l0 x4_1).f0) % 256,((rd_T113 l0 x4_1).f2) % 256]:List Int)) (inner:=[.int .u8 (((rd_T113 l0 x4_1).f0) % 256),.int .u8 (((rd_T113 l0 x4_1).f2) % 256)]) (ok:=fun _=>True) (okp:=fun _=>True) ?hr ?hp (fun _ hk=>hk) trivial (Below.refl _ _) (Nat.le_refl _) (by simp) ?_;(case hd=>rfl);(case hg=>rfl);(case hr=>exact hz);(case hp=>exact (Reps.one (show Kd.M (Kd.int .u8) _ _ _ (((rd_T113 l0 x4_1).f0) % 256) [.int .u8 (((rd_T113 l0 x4_1).f0) % 256)] from rfl) (Reps.one (show Kd.M (Kd.int .u8) _ _ _ (((rd_T113 l0 x4_1).f2) % 256) [.int .u8 (((rd_T113 l0 x4_1).f2) % 256)] from rfl) (Reps.none _ _))));intro v210 w10 ho11 hb hg_ hnew_;clear hg_ hnew_;(first | rw [← Ny209.out] at ho11 | (simp only [Int.reduceToNat] at ho11;rw [← Ny209.out] at ho11));have HO211:=Aside0.mk (Kd.R_lower (Kd.R_new' ho11 (Kd.R_lt (rz HO_3))) (below_size bz));replace HO_3:=Aside0.mk (Kd.R_elder' (rz HO_3) (Kd.R_base ho11) hb);replace HB:=Aside0.mk (below_step bz hb);clear hb ho11;obtain ⟨Ao13,co13,eo13⟩:=Kd.R_slice HO211.out;(first | subst eo13 | (injection eo13 with f1_ f2_ f3_;have f4_:=f1_.symm;have f5_:=f3_.symm;clear f1_ f2_ f3_;subst f4_;subst f5_));refine hK.out _ _ ⟨((HB.out.cell (World.block_lt_of_cell? w _ hw207_0)).trans hw207_0),((HB.out.cell (World.block_lt_of_cell? w _ hw207_1)).trans hw207_1),((HB.out.cell (World.block_lt_of_cell? w _ hw207_2)).trans hw207_2),((HB.out.cell (World.block_lt_of_cell? w _ hw208_0)).trans hw208_0),((HB.out.cell (World.block_lt_of_cell? w _ hw208_1)).trans hw208_1),((HB.out.cell (World.block_lt_of_cell? w _ hw208_2)).trans hw208_2),((HB.out.cell (World.block_lt_of_cell? w _ hw215_0)).trans hw215_0),((HB.out.cell (World.block_lt_of_cell? w _ hw215_1)).trans hw215_1),((HB.out.cell (World.block_lt_of_cell? w _ hw215_2)).trans hw215_2)⟩ (fun hHeld => ?_);clear hK K;refine nz ?_;refine one_ (i:=14) (N:=some 29) #[true,true,true,true,true,true,true,true,true,true,true,true,true,true,true,true,true,true,true,true,false,false,false] rfl rfl (one_of HT_.out (by kernel_rfl)) (by decide) (fun K hK => ?_);refine Kd.R_append_rows_step (Kd.int .u8) (w0:=w) w.heap.size (by rfl) (.tmp 15) (.tmp 28) 31 5 (.int .u8 0) 1 rfl Tryz.underlying31 info5 rfl (by decide) (by omega) u3 x3_1 y209 _ _ _ (fun k_=>some k_≠(.slice Ao13 y209.length co13:Value).ownBlock) (fun _=>False) rfl rfl ?aO ?aR (fun _ _ h=>h) (fun _ h=>h.elim) ?aF ?aB ?aS ?aL ?_;(case aR=>exact cz ((Kd.R_reads' HO211.out).2.2));(case aB=>exact bz);(case aF=>exact (fun k_ hk=>Kd.fresh' (Kd.R_lt (rz HO211)) k_ hk));(case aO=>exact (by (with_reducible repeat (first | apply Kd.R_alloc | apply Kd.R_drewN | apply Kd.R_drew));exact Kd.R_mono HO_3.out (fun _ hk=>hk.2)));(case aS=>exact (below_size bz));(case aL=>have:=LMc6.out;omega);intro v213 w12 ho hb hg hat;rw [← Ny212.out] at ho;replace HO211:=Aside0.mk (Kd.R_after (ok:=(fun _=>True)) (rz HO211) hg hat);replace HB:=Aside0.mk (hb);have HO214:=Aside0.mk (ho);clear HO_3;clear ho hb hg hat
   refine hK.out _ _ ⟨((HB.out.cell (World.block_lt_of_cell? w _ hw207_0)).trans hw207_0),((HB.out.cell (World.block_lt_of_cell? w _ hw207_1)).trans hw207_1),((HB.out.cell (World.block_lt_of_cell? w _ hw207_2)).trans hw207_2),((HB.out.cell (World.block_lt_of_cell? w _ hw208_0)).trans hw208_0),((HB.out.cell (World.block_lt_of_cell? w _ hw208_1)).trans hw208_1),((HB.out.cell (World.block_lt_of_cell? w _ hw208_2)).trans hw208_2),((HB.out.cell (World.block_lt_of_cell? w _ hw215_0)).trans hw215_0),((HB.out.cell (World.block_lt_of_cell? w _ hw215_1)).trans hw215_1),((HB.out.cell (World.block_lt_of_cell? w _ hw215_2)).trans hw215_2)⟩ (fun hHeld => ?_);clear hK K;refine nz ?_;refine one_ (i:=20) (N:=some 35) #[true,true,true,true,true,true,true,true,true,true,true,true,true,true,true,true,true,true,true,true,true,false,false] rfl rfl (one_of HT_.out (by kernel_rfl)) (by decide) (fun K hK => ?_);refine goes_ Tryz.func23 (by kernel_rfl) rfl #[.int .i64 ((rd_T113 l0 x4_1).f1)] (by rfl) rfl rfl lz ?_;with_reducible refine (riposteref24_two.calls ((rd_T113 l0 x4_1).f1) t216 _ A7.out).mono ?_
   rintro e w14 ⟨v217,rfl,ho0,hb⟩;refine ⟨_,rfl,?_⟩;have HO218:=Aside0.mk (Kd.R_lower (Kd.R_new' (Kd.R_new' ho0 (Kd.R_lt (rz HO211))) (Kd.R_lt (rz HO214))) (below_size bz));replace HO211:=Aside0.mk (Kd.R_elder' (rz HO211) (Kd.R_base ho0) hb);replace HO214:=Aside0.mk (Kd.R_elder' (rz HO214) (Kd.R_base ho0) hb);replace HB:=Aside0.mk (below_step bz hb);(try clear hb);(try clear hb2);(try clear hk);(try clear hi);(try clear ho0);obtain ⟨Ao16,co16,eo16⟩:=Kd.R_slice HO218.out;(first | subst eo16 | (injection eo16 with f1_ f2_ f3_;have f4_:=f1_.symm;have f5_:=f3_.symm;clear f1_ f2_ f3_;subst f4_;subst f5_));refine hK.out _ _ ⟨((HB.out.cell (World.block_lt_of_cell? w _ hw207_0)).trans hw207_0),((HB.out.cell (World.block_lt_of_cell? w _ hw207_1)).trans hw207_1),((HB.out.cell (World.block_lt_of_cell? w _ hw207_2)).trans hw207_2),((HB.out.cell (World.block_lt_of_cell? w _ hw208_0)).trans hw208_0),((HB.out.cell (World.block_lt_of_cell? w _ hw208_1)).trans hw208_1),((HB.out.cell (World.block_lt_of_cell? w _ hw208_2)).trans hw208_2),((HB.out.cell (World.block_lt_of_cell? w _ hw215_0)).trans hw215_0),((HB.out.cell (World.block_lt_of_cell? w _ hw215_1)).trans hw215_1),((HB.out.cell (World.block_lt_of_cell? w _ hw215_2)).trans hw215_2)⟩ (fun hHeld => ?_);clear hK K;refine nz ?_;refine one_ (i:=21) (N:=some 36) #[true,true,true,true,true,true,true,true,true,true,true,true,true,true,true,true,true,true,true,true,true,true,false] rfl rfl (one_of HT_.out (by kernel_rfl)) (by decide) (fun K hK => ?_);refine Kd.R_append_rows_step (Kd.int .u8) (w0:=w) w.heap.size (by rfl) (.tmp 29) (.tmp 35) 31 5 (.int .u8 0) 1 rfl Tryz.underlying31 info5 rfl (by decide) (by omega) v213 y212 t216 _ _ _ (fun k_=>some k_≠(.slice Ao13 y209.length co13:Value).ownBlock∧some k_≠(.slice Ao16 t216.length co16:Value).ownBlock) (fun _=>False) rfl rfl ?aO ?aR (fun _ _ h=>h) (fun _ h=>h.elim) ?aF ?aB ?aS ?aL ?_;(case aR=>exact cz ((Kd.R_reads' HO218.out).2.2));(case aB=>exact bz);(case aF=>exact (fun k_ hk=>⟨Kd.fresh' (Kd.R_lt (rz HO211)) k_ hk,Kd.fresh' (Kd.R_lt (rz HO218)) k_ hk⟩));(case aO=>exact (rz HO214));(case aS=>exact (below_size bz));(case aL=>have:=LMc8.out;omega);intro v220 w15 ho hb hg hat;rw [← Ny219.out] at ho;replace HO211:=Aside0.mk (Kd.R_after (ok:=(fun k_=>some k_≠(.slice Ao16 t216.length co16:Value).ownBlock)) (by (with_reducible repeat (first | apply Kd.R_alloc | apply Kd.R_drewN | apply Kd.R_drew));exact Kd.R_mono HO211.out (fun _ hk=>⟨hk.2,hk.1.2⟩)) hg hat);replace HO218:=Aside0.mk (Kd.R_after (ok:=(fun k_=>some k_≠(.slice Ao13 y209.length co13:Value).ownBlock)) (by (with_reducible repeat (first | apply Kd.R_alloc | apply Kd.R_drewN | apply Kd.R_drew));exact Kd.R_mono HO218.out (fun _ hk=>⟨hk.1.2,hk.2⟩)) hg hat);replace HB:=Aside0.mk (hb);have HO221:=Aside0.mk (ho);clear HO214;clear ho hb hg hat;refine hK.out _ _ ⟨((HB.out.cell (World.block_lt_of_cell? w _ hw207_0)).trans hw207_0),((HB.out.cell (World.block_lt_of_cell? w _ hw207_1)).trans hw207_1),((HB.out.cell (World.block_lt_of_cell? w _ hw207_2)).trans hw207_2),((HB.out.cell (World.block_lt_of_cell? w _ hw208_0)).trans hw208_0),((HB.out.cell (World.block_lt_of_cell? w _ hw208_1)).trans hw208_1),((HB.out.cell (World.block_lt_of_cell? w _ hw208_2)).trans hw208_2),((HB.out.cell (World.block_lt_of_cell? w _ hw215_0)).trans hw215_0),((HB.out.cell (World.block_lt_of_cell? w _ hw215_1)).trans hw215_1),((HB.out.cell (World.block_lt_of_cell? w _ hw215_2)).trans hw215_2)⟩ (fun hHeld => ?_);clear hK K;refine nz ?_;refine pz 22 3 HT_.out ?_;refine done_ (done_of HT_.out (by kernel_rfl)) ?_;try go_wp2
   go_roundg k1
   case measure=>have:=HK1.out;omega
   case rel=>exact ⟨(y219),(wrap64 (x4_1+1)),(by first | rfl | (simp;done) | (simp [*];done)),H',⟨by have:=HK1.out;omega⟩,⟨by (with_reducible repeat (first | apply Kd.R_alloc | apply Kd.R_drewN | apply Kd.R_drew));exact Kd.R_mono HO221.out (fun _ hk=>trivial)⟩,⟨bz⟩⟩
end Go.Proofs.YtmcfpcgpjppfkaaGreatDoor.PB
namespace Go.Proofs.YtmcfpcgpjppfkaaGreatDoor.PB
open Go.RowKit Go.Proofs.YtmcfpcgpjppfkaaGreatDoorW.PrintWords Go.Proofs.YtmcfpcgpjppfkaaGreatDoorW.PrintLast
set_option linter.unusedVariables false
set_option linter.unusedSimpArgs false
def slices_Equal_byte_byte.l0:Nat→List Int→List Int→Int→Int→Option (Bool)
  | 0,_,_,_,_=>none
  | k+1,x0,x1,x12,x13=>if x13<x12 then (if 0≤x13 then (if x13<(x0.length:Int) then (if x13<(x1.length:Int) then (if (rd x0 x13)=(rd x1 x13) then (slices_Equal_byte_byte.l0 k x0 x1 x12 (wrap64 (x13+1))) else (some false)) else (none)) else (none)) else (none)) else (some true)
def slices_Equal_byte_byte.f (k:Nat) (l0:List Int) (l1:List Int):Option (Bool):=if (l0.length:Int)=(l1.length:Int) then (slices_Equal_byte_byte.l0 k l0 l1 (l0.length:Int) 0) else (some false)
theorem slices_Equal_byte_byte.mono_l : ∀ k,(∀ y0 y1 y2 y3,LeO (slices_Equal_byte_byte.l0 k y0 y1 y2 y3) (slices_Equal_byte_byte.l0 (k+1) y0 y1 y2 y3))
  | 0=>fun _ _ _ _ r h=>by simp [slices_Equal_byte_byte.l0] at h
  | k+1=>by
    have ih0:=slices_Equal_byte_byte.mono_l k
    · intro y0 y1 y2 y3
      unfold slices_Equal_byte_byte.l0
      repeat' first
      | (with_reducible exact ih0 _ _ _ _)
      | (with_reducible exact LeO.refl _)
      | (with_reducible exact LeO.none _)
      | (with_reducible refine LeO.ite ?_ ?_)
      | (with_reducible refine LeO.bind ?_ (fun _ => ?_))
      | exact ih0 _ _ _ _
      | exact LeO.none _
      | refine LeO.ite ?_ ?_
      | refine LeO.bind ?_ (fun _ => ?_)
theorem slices_Equal_byte_byte.mono : ∀ a0 a1 k,LeO (slices_Equal_byte_byte.f k a0 a1) (slices_Equal_byte_byte.f (k+1) a0 a1):=by
 intro a0 a1 k;have ih0:=slices_Equal_byte_byte.mono_l k;unfold slices_Equal_byte_byte.f
 repeat' first
   | (with_reducible exact ih0 _ _ _ _)
   | (with_reducible exact LeO.refl _)
   | (with_reducible exact LeO.none _)
   | (with_reducible refine LeO.ite ?_ ?_)
   | (with_reducible refine LeO.bind ?_ (fun _ => ?_))
   | exact ih0 _ _ _ _
   | exact LeO.none _
   | refine LeO.ite ?_ ?_
   | refine LeO.bind ?_ (fun _ => ?_)
set_option maxHeartbeats 8000000 in
set_option maxRecDepth 100000 in
theorem slices_Equal_byte_byte.calls (k:Nat) (A0:Option Addr) (c0:Nat) (l0:List Int) (A1:Option Addr) (c1:Nat) (l1:List Int) (r:Bool) (w:World) (hr0:Kd.C (Kd.int .u8) w A0 l0.length l0) (hc0:l0.length≤c0) (hr1:Kd.C (Kd.int .u8) w A1 l1.length l1) (hc1:l1.length≤c1) (h:slices_Equal_byte_byte.f k l0 l1=some r) :
    Calls Tryz.prog 27 #[.slice A0 l0.length c0,.slice A1 l1.length c1] w fun e w'=>e=.returned (.bool r)∧Drawn0 w w':=by
 have HR0:=Aside0.mk hr0;have HC0:=Aside0.mk hc0;clear hr0 hc0;have HR1:=Aside0.mk hr1;have HC1:=Aside0.mk hc1;clear hr1 hc1;have H:=h;unfold slices_Equal_byte_byte.f at H;clear h;by_cases c3:(l0.length:Int)=(l1.length:Int);rotate_left
 · rw [if_neg c3] at H;have c3b0:=beq_eq_false_iff_ne.mpr c3;have c3b1:=bne_iff_ne.mpr c3;have c3b2:(l0.length == l1.length)=false:=by first | simpa using c3 | (simp at c3 ⊢;omega)
   obtain rfl:=Option.some.inj H;go_enter Tryz.func27,Tryz.ntmps27
   go_wp2
   repeat (go_quiet (fail);try go_wp2)
   go_ret
   exact ⟨by first | rfl | (simp;done) | (simp [*];done),by repeat (first | exact Drawn0.refl _ | apply Drawn0.step)⟩
 rw [if_pos c3] at H;have c3b0:=beq_iff_eq.mpr c3;have c3b1:=bne_eq_false_iff_eq.mpr c3;have c3b2:(l0.length == l1.length)=true:=by first | simpa using c3 | (simp at c3 ⊢;omega)
 clear c3;have H':=Aside0.mk H;clear H;go_enter Tryz.func27,Tryz.ntmps27
 go_wp2
 repeat (go_quiet (fail);try go_wp2)
 go_loopg [13] k (fun kq v13 w' => ∃ (x13_1:Int),v13=.int .i64 x13_1∧Aside0 (slices_Equal_byte_byte.l0 kq l0 l1 (l0.length:Int) x13_1=some r)∧Aside0 (kq≤k)∧Drawn0 w w')
 case atStart=>exact ⟨(0),(by first | rfl | (simp;done) | (simp [*];done)),H',⟨Nat.le_refl _⟩,by repeat (first | exact Drawn0.refl _ | apply Drawn0.step)⟩
 case round =>
  clear H';try clear c1
  try clear c2
  try clear p2
  try clear c3
  try clear c3b0
  try clear c3b1
  try clear c3b2
  obtain ⟨x13_1,rfl,HA,HK1,⟨m1,rfl⟩⟩:=hrel;cases gk with
  | zero=>exact absurd HA.out (by simp [slices_Equal_byte_byte.l0])
  | succ k1 =>
   have H:=HA.out;clear HA;simp only [slices_Equal_byte_byte.l0] at H;by_cases c4:x13_1<(l0.length:Int);rotate_left
   · rw [if_neg c4] at H;have c4b0:decide (x13_1<(l0.length:Int))=false:=decide_eq_false c4;clear c4;obtain rfl:=Option.some.inj H;go_wp2
     repeat (go_quiet (fail);try go_wp2)
     go_ret
     exact ⟨by first | rfl | (simp;done) | (simp [*];done),by repeat (first | exact Drawn0.refl _ | apply Drawn0.step)⟩
   rw [if_pos c4] at H;have c4b0:decide (x13_1<(l0.length:Int))=true:=decide_eq_true c4;clear c4;by_cases c5:0≤x13_1;rotate_left
   · rw [if_neg c5] at H;exact absurd H (by simp)
   rw [if_pos c5] at H;have c5b0:decide (0≤x13_1)=true:=decide_eq_true c5;clear c5;by_cases c6:x13_1<(l0.length:Int);rotate_left
   · rw [if_neg c6] at H;exact absurd H (by simp)
   rw [if_pos c6] at H;have c6b0:decide (x13_1<(l0.length:Int))=true:=decide_eq_true c6;clear c6;by_cases c7:x13_1<(l1.length:Int);rotate_left
   · rw [if_neg c7] at H;exact absurd H (by simp)
   rw [if_pos c7] at H;have c7b0:decide (x13_1<(l1.length:Int))=true:=decide_eq_true c7;clear c7;by_cases c8:(rd l0 x13_1)=(rd l1 x13_1);rotate_left
   · rw [if_neg c8] at H;have c8b0:=beq_eq_false_iff_ne.mpr c8;have c8b1:=bne_iff_ne.mpr c8;obtain rfl:=Option.some.inj H;have p323:0≤(x13_1:Int):=of_decide_eq_true az;have q323:x13_1<(l0.length:Int):=of_decide_eq_true az;obtain ⟨ad323,e323,hx323_0⟩:=Kd.at_int HR0.out x13_1 p323 q323;cases e323
     replace p323:=eq_true p323;replace q323:=eq_true q323;have p324:0≤(x13_1:Int):=of_decide_eq_true az;have q324:x13_1<(l1.length:Int):=of_decide_eq_true az;obtain ⟨ad324,e324,hx324_0⟩:=Kd.at_int HR1.out x13_1 p324 q324;cases e324
     replace p324:=eq_true p324;replace q324:=eq_true q324;go_wp2
     repeat (go_quiet (fail);try go_wp2)
     go_ret
     exact ⟨by first | rfl | (simp;done) | (simp [*];done),by repeat (first | exact Drawn0.refl _ | apply Drawn0.step)⟩
   rw [if_pos c8] at H;have c8b0:=beq_iff_eq.mpr c8;have c8b1:=bne_eq_false_iff_eq.mpr c8;clear c8;have H':=Aside0.mk H;clear H;have p323:0≤(x13_1:Int):=of_decide_eq_true az;have q323:x13_1<(l0.length:Int):=of_decide_eq_true az;obtain ⟨ad323,e323,hx323_0⟩:=Kd.at_int HR0.out x13_1 p323 q323;cases e323
   replace p323:=eq_true p323;replace q323:=eq_true q323;have p324:0≤(x13_1:Int):=of_decide_eq_true az;have q324:x13_1<(l1.length:Int):=of_decide_eq_true az;obtain ⟨ad324,e324,hx324_0⟩:=Kd.at_int HR1.out x13_1 p324 q324;cases e324
   replace p324:=eq_true p324;replace q324:=eq_true q324;go_wp2
   repeat (go_quiet (fail);try go_wp2)
   go_roundg k1
   case measure=>have:=HK1.out;omega
   case rel=>exact ⟨(wrap64 (x13_1+1)),(by first | rfl | (simp;done) | (simp [*];done)),H',⟨by have:=HK1.out;omega⟩,by repeat (first | exact Drawn0.refl _ | apply Drawn0.step)⟩
end Go.Proofs.YtmcfpcgpjppfkaaGreatDoor.PB
