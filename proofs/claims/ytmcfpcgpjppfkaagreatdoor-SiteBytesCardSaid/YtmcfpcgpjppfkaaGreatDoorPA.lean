/- Contracts of the smaller functions that SiteBytes reaches. Conditions: those that the theorems state. -/
import Derived.Test.YtmcfpcgpjppfkaaGreatDoorProg
import Derived.Below
import Derived.Deep.Draws
import Derived.Deep.AppendLies
import Derived.Maps.AppendAt
import Derived.OwnWalk
import Derived.Laws.BytesArg
import Derived.Laws.MakeOwn
import Derived.Laws.OwnMore
import Derived.Deep.OwnRows
import Derived.Tactics
import Derived.Lib.ConvBytes
import Derived.Laws.Slices
import Derived.WalkKit
import Derived.KernelRfl
import Derived.RowKit3
import Derived.Deep.LoopGhost
import Derived.Deep.QuietTactic
import Derived.BigQuiet
import Derived.WideLaws
import Derived.Deep.DeepCutAuto
import Derived.Deep.CutBlock
import Derived.Deep.RegionHeld3
import Derived.Laws.Rows
import Derived.Lib.AppendStr
import Derived.ArgAppend
import Derived.Laws.IdiomCopy
import Derived.OrdersHeld
import Derived.Laws.BitsLemmas
import Derived.RowKit
import Derived.Test.YtmcfpcgpjppfkaaGreatDoorV
namespace Go.Proofs.YtmcfpcgpjppfkaaGreatDoor.PB
open Go.RowKit Go.Proofs.YtmcfpcgpjppfkaaGreatDoorW.PrintWords Go.Proofs.YtmcfpcgpjppfkaaGreatDoorW.PrintLast
set_option linter.unusedVariables false
set_option linter.unusedSimpArgs false
def errW:Option Int→Value
  | none=>.nilIface
  | some c=>.iface 0 (.int .i64 c)
theorem errW_none:errW none=.nilIface:=rfl
theorem errW_some (c:Int):errW (some c)=.iface 0 (.int .i64 c):=rfl
theorem info5:(Tryz.prog.info? 5).map (fun i=>(i.zero,i.size,i.bytes))=some (some (.int .u8 0),1,1):=by kernel_rfl
theorem info28:(Tryz.prog.info? 28).map (fun i=>(i.zero,i.size,i.bytes))=some (some (.agg #[(.int .i64 0),(.int .i64 0),(.slice none 0 0),(.int .i64 0)]),4,48):=by kernel_rfl
theorem info113:(Tryz.prog.info? 113).map (fun i=>(i.zero,i.size,i.bytes))=some (some (.agg #[(.int .i64 0),(.int .i64 0),(.int .i64 0)]),3,24):=by kernel_rfl
structure S113 where
  f0:Int
  f1:Int
  f2:Int
def z113:S113:=⟨(0:Int),(0:Int),(0:Int)⟩
def k113:Kd S113:=Kd.iso (Kd.pair (Kd.int .i64) (Kd.pair (Kd.int .i64) (Kd.int .i64))) (fun x:S113=>(x.f0,x.f1,x.f2))
theorem k72_open {w:World} {x:S113} {cs:List Value} (h:k113.K w x cs):cs=[.int .i64 x.f0,.int .i64 x.f1,.int .i64 x.f2]:=by
 obtain ⟨_,_,rfl,rfl,⟨_,_,rfl,rfl,rfl⟩⟩:=h;exact rfl
theorem k72_mk (w:World) (x:S113)  : k113.K w x [.int .i64 x.f0,.int .i64 x.f1,.int .i64 x.f2]:=⟨[.int .i64 x.f0],[.int .i64 x.f1,.int .i64 x.f2],rfl,rfl,⟨[.int .i64 x.f1],[.int .i64 x.f2],rfl,rfl,rfl⟩⟩
theorem k72_mkM (w:World) (base:Nat) (ok:Nat→Prop) (x:S113)  : k113.M w base ok x [.int .i64 x.f0,.int .i64 x.f1,.int .i64 x.f2]:=⟨[.int .i64 x.f0],[.int .i64 x.f1,.int .i64 x.f2],rfl,rfl,⟨[.int .i64 x.f1],[.int .i64 x.f2],rfl,rfl,rfl⟩⟩
def rd_T113 (xs:List S113) (i:Int):S113:=xs.getD i.toNat z113
theorem at_T113 {w:World} {A:Option Addr} {n:Nat} {xs:List S113} (h:Kd.C k113 w A n xs) (i:Int) (h0:0≤i) (h1:i<n) : ∃ ad , A=some ad∧w.cell? (ad.add (i.toNat*3))=some (.int .i64 (rd_T113 xs i).f0)∧w.cell? ⟨(ad.add (i.toNat*3)).block,(ad.add (i.toNat*3)).off+1,none⟩=some (.int .i64 (rd_T113 xs i).f1)∧w.cell? ⟨(ad.add (i.toNat*3)).block,(ad.add (i.toNat*3)).off+2,none⟩=some (.int .i64 (rd_T113 xs i).f2):=by
 obtain ⟨ad,c,e,_,hK,hc0⟩:=Kd.C_get h z113 i h0 h1;have hc : ∀ j u,c[j]?=some u→w.cell? (ad.add (i.toNat*3+j))=some u:=hc0
 obtain rfl:=k72_open hK;exact ⟨ad,e,hc 0 _ rfl,by rw [← add_field _ _ 1 (by omega)];exact hc 1 _ rfl,by rw [← add_field _ _ 2 (by omega)];exact hc 2 _ rfl⟩
structure S23 where
  f0:Int
  f1:Int
def z23:S23:=⟨(0:Int),(0:Int)⟩
def k23:Kd S23:=Kd.iso (Kd.pair (Kd.int .i64) (Kd.int .i64)) (fun x:S23=>(x.f0,x.f1))
theorem k23_open {w:World} {x:S23} {cs:List Value} (h:k23.K w x cs):cs=[.int .i64 x.f0,.int .i64 x.f1]:=by
 obtain ⟨_,_,rfl,rfl,rfl⟩:=h;exact rfl
theorem k23_mk (w:World) (x:S23)  : k23.K w x [.int .i64 x.f0,.int .i64 x.f1]:=⟨[.int .i64 x.f0],[.int .i64 x.f1],rfl,rfl,rfl⟩
theorem k23_mkM (w:World) (base:Nat) (ok:Nat→Prop) (x:S23)  : k23.M w base ok x [.int .i64 x.f0,.int .i64 x.f1]:=⟨[.int .i64 x.f0],[.int .i64 x.f1],rfl,rfl,rfl⟩
structure S28 where
  f0:S23
  f1:(List S113)
  f2:Int
def z28:S28:=⟨z23,([]:List S113),(0:Int)⟩
def k28:Kd S28:=Kd.iso (Kd.pair k23 (Kd.pair (Kd.slice 113 k113) (Kd.int .i64))) (fun x:S28=>(x.f0,x.f1,x.f2))
theorem k28_open {w:World} {x:S28} {cs:List Value} (h:k28.K w x cs) : ∃ A2 c2,cs=[.int .i64 x.f0.f0,.int .i64 x.f0.f1,.slice A2 x.f1.length c2,.int .i64 x.f2]∧x.f1.length≤c2∧k113.C w A2 x.f1.length x.f1:=by
 obtain ⟨_,_,rfl,s0,⟨_,_,rfl,⟨A2,c2,rfl,l2,g2⟩,rfl⟩⟩:=h;obtain rfl:=k23_open s0;exact ⟨A2,c2,rfl,l2,g2⟩
theorem k28_mk (w:World) (x:S28) {A2:Option Addr} {c2:Nat} (l2:x.f1.length≤c2) (g2:k113.C w A2 x.f1.length x.f1):k28.K w x [.int .i64 x.f0.f0,.int .i64 x.f0.f1,.slice A2 x.f1.length c2,.int .i64 x.f2]:=⟨[.int .i64 x.f0.f0,.int .i64 x.f0.f1],[.slice A2 x.f1.length c2,.int .i64 x.f2],rfl,(k23_mk w x.f0 ),⟨[.slice A2 x.f1.length c2],[.int .i64 x.f2],rfl,⟨A2,c2,rfl,l2,g2⟩,rfl⟩⟩
theorem k28_mkM (w:World) (base:Nat) (ok:Nat→Prop) (x:S28) {v2:Value} (g2:k113.R 113 w base ok v2 x.f1):k28.M w base ok x [.int .i64 x.f0.f0,.int .i64 x.f0.f1,v2,.int .i64 x.f2]:=⟨[.int .i64 x.f0.f0,.int .i64 x.f0.f1],[v2,.int .i64 x.f2],rfl,(k23_mkM w base ok x.f0 ),⟨[v2],[.int .i64 x.f2],rfl,⟨v2,rfl,g2⟩,rfl⟩⟩
def rd_T28 (xs:List S28) (i:Int):S28:=xs.getD i.toNat z28
theorem at_T28 {w:World} {A:Option Addr} {n:Nat} {xs:List S28} (h:Kd.C k28 w A n xs) (i:Int) (h0:0≤i) (h1:i<n) : ∃ ad A2 c2,A=some ad∧w.cell? (ad.add (i.toNat*4))=some (.int .i64 (rd_T28 xs i).f0.f0)∧w.cell? ⟨(ad.add (i.toNat*4)).block,(ad.add (i.toNat*4)).off+1,none⟩=some (.int .i64 (rd_T28 xs i).f0.f1)∧w.cell? ⟨(ad.add (i.toNat*4)).block,(ad.add (i.toNat*4)).off+2,none⟩=some (.slice A2 (rd_T28 xs i).f1.length c2)∧w.cell? ⟨(ad.add (i.toNat*4)).block,(ad.add (i.toNat*4)).off+3,none⟩=some (.int .i64 (rd_T28 xs i).f2)∧(rd_T28 xs i).f1.length≤c2∧k113.C w A2 (rd_T28 xs i).f1.length (rd_T28 xs i).f1:=by
 obtain ⟨ad,c,e,_,hK,hc0⟩:=Kd.C_get h z28 i h0 h1;have hc : ∀ j u,c[j]?=some u→w.cell? (ad.add (i.toNat*4+j))=some u:=hc0
 obtain ⟨A2,c2,rfl,l2,g2⟩:=k28_open hK;exact ⟨ad,A2,c2,e,hc 0 _ rfl,by rw [← add_field _ _ 1 (by omega)];exact hc 1 _ rfl,by rw [← add_field _ _ 2 (by omega)];exact hc 2 _ rfl,by rw [← add_field _ _ 3 (by omega)];exact hc 3 _ rfl,l2,g2⟩
end Go.Proofs.YtmcfpcgpjppfkaaGreatDoor.PB
namespace Go.Proofs.YtmcfpcgpjppfkaaGreatDoor.PB
open Go.RowKit Go.Proofs.YtmcfpcgpjppfkaaGreatDoorW.PrintWords Go.Proofs.YtmcfpcgpjppfkaaGreatDoorW.PrintLast
set_option linter.unusedVariables false
set_option linter.unusedSimpArgs false
theorem eqA23 (d:Nat) (w:World) (x0 y0:Int) (x1 y1:Int) :
    (Op.equalIn (d+2) 23 (.agg #[.int .i64 x0,.int .i64 x1]) (.agg #[.int .i64 y0,.int .i64 y1])).run Tryz.prog w=.ok (x0 == y0 && (x1 == y1)) w:=by
 refine eqA_of Tryz.underlying23 (by kernel_rfl) ?_;refine eqf_cons (by rfl) (by go_simp;rfl) (by go_simp;rfl) (by go_simp) ?_;exact eqf_last (by rfl) (by go_simp;rfl) (by go_simp;rfl) (by go_simp)
end Go.Proofs.YtmcfpcgpjppfkaaGreatDoor.PB
namespace Go.Proofs.YtmcfpcgpjppfkaaGreatDoor.PB
open Go.RowKit Go.Proofs.YtmcfpcgpjppfkaaGreatDoorW.PrintWords Go.Proofs.YtmcfpcgpjppfkaaGreatDoorW.PrintLast
set_option linter.unusedVariables false
set_option linter.unusedSimpArgs false
def ripostelaw17_ThinPath.f (l0:List (S113)):Option (Bool):=if (l0.length:Int)≤20 then (some true) else (if (l0.length:Int) > 200 then (some (decide ((l0.length:Int)<300))) else (some false))
set_option maxHeartbeats 8000000 in
set_option maxRecDepth 100000 in
theorem ripostelaw17_ThinPath.calls (A0:Option Addr) (c0:Nat) (l0:List (S113)) (r:Bool) (w:World) (hr0:Kd.C k113 w A0 l0.length l0) (hc0:l0.length≤c0) (h:ripostelaw17_ThinPath.f l0=some r) :
    Calls Tryz.prog 32 #[.slice A0 l0.length c0] w fun e w'=>e=.returned (.bool r)∧Drawn0 w w':=by
 have HR0:=Aside0.mk hr0;have HC0:=Aside0.mk hc0;clear hr0 hc0;have H:=h;unfold ripostelaw17_ThinPath.f at H;clear h;by_cases c2:(l0.length:Int)≤20
 · rw [if_pos c2] at H;have c2b0:decide ((l0.length:Int)≤20)=true:=decide_eq_true c2;have c2b1:decide (l0.length≤20)=true:=decide_eq_true (by omega);clear c2;obtain rfl:=Option.some.inj H;go_enter Tryz.func32,Tryz.ntmps32
   go_wp2
   go_ret
   exact ⟨by first | rfl | (simp;done) | (simp [*];done),by repeat (first | exact Drawn0.refl _ | apply Drawn0.step)⟩
 rw [if_neg c2] at H;have c2b0:decide ((l0.length:Int)≤20)=false:=decide_eq_false c2;have c2b1:decide (l0.length≤20)=false:=decide_eq_false (by omega);clear c2;by_cases c3:(l0.length:Int) > 200
 · rw [if_pos c3] at H;have c3b0:decide (200<(l0.length:Int))=true:=decide_eq_true c3;have c3b1:decide (200<l0.length)=true:=decide_eq_true (by omega);clear c3;obtain rfl:=Option.some.inj H;go_enter Tryz.func32,Tryz.ntmps32
   go_wp2
   go_ret
   exact ⟨by first | rfl | (simp;done) | (simp [*];done),by repeat (first | exact Drawn0.refl _ | apply Drawn0.step)⟩
 rw [if_neg c3] at H;have c3b0:decide (200<(l0.length:Int))=false:=decide_eq_false c3;have c3b1:decide (200<l0.length)=false:=decide_eq_false (by omega);clear c3;obtain rfl:=Option.some.inj H;go_enter Tryz.func32,Tryz.ntmps32
 go_wp2
 go_ret
 exact ⟨by first | rfl | (simp;done) | (simp [*];done),by repeat (first | exact Drawn0.refl _ | apply Drawn0.step)⟩
end Go.Proofs.YtmcfpcgpjppfkaaGreatDoor.PB
namespace Go.Proofs.YtmcfpcgpjppfkaaGreatDoor.PB
open Go.RowKit Go.Proofs.YtmcfpcgpjppfkaaGreatDoorW.PrintWords Go.Proofs.YtmcfpcgpjppfkaaGreatDoorW.PrintLast
set_option linter.unusedVariables false
set_option linter.unusedSimpArgs false
def site_within.f (a0:Int) (a1:Int) (a2:Int):Option (Bool):=if a2 ≥ a0 then (some (decide (a2≤a1))) else (some false)
set_option maxHeartbeats 8000000 in
set_option maxRecDepth 100000 in
theorem site_within.calls (a0:Int) (a1:Int) (a2:Int) (r:Bool) (w:World) (h:site_within.f a0 a1 a2=some r) :
    Calls Tryz.prog 53 #[.int .i64 a0,.int .i64 a1,.int .i64 a2] w fun e w'=>e=.returned (.bool r)∧Drawn0 w w':=by
 have H:=h;unfold site_within.f at H;clear h;by_cases c4:a2 ≥ a0
 · rw [if_pos c4] at H;have c4b0:decide (a0≤a2)=true:=decide_eq_true c4;clear c4;obtain rfl:=Option.some.inj H;go_enter Tryz.func53,Tryz.ntmps53
   go_wp2
   go_ret
   exact ⟨by first | rfl | (simp;done) | (simp [*];done),by repeat (first | exact Drawn0.refl _ | apply Drawn0.step)⟩
 rw [if_neg c4] at H;have c4b0:decide (a0≤a2)=false:=decide_eq_false c4;clear c4;obtain rfl:=Option.some.inj H;go_enter Tryz.func53,Tryz.ntmps53
 go_wp2
 go_ret
 exact ⟨by first | rfl | (simp;done) | (simp [*];done),by repeat (first | exact Drawn0.refl _ | apply Drawn0.step)⟩
end Go.Proofs.YtmcfpcgpjppfkaaGreatDoor.PB
namespace Go.Proofs.YtmcfpcgpjppfkaaGreatDoor.PB
open Go.RowKit Go.Proofs.YtmcfpcgpjppfkaaGreatDoorW.PrintWords Go.Proofs.YtmcfpcgpjppfkaaGreatDoorW.PrintLast
set_option linter.unusedVariables false
set_option linter.unusedSimpArgs false
attribute [local go_sem high] eqA23
def site_isZero.f (a0_0:Int) (a0_1:Int) (l0_2:List (S113)) (a0_3:Int):Option (Bool):=if (a0_0 == 0 && (a0_1 == 0))=true then (if (l0_2.length:Int)=0 then (some (a0_3 == 0)) else (some false)) else (some false)
theorem y30 {p:Prop} (h:p:=by
 go_enter Tryz.func43,Tryz.ntmps43
 go_wp2_with (first | ((with_reducible refine gate_dst (N:=1) rfl ?_);(try (refine gate_guard (by rfl) ?_;dsimp only));refine box_event ?hg (N:=1) ?hd (cs:=#[.int .i64 a0_0,.int .i64 a0_1,.slice A0_2 l0_2.length c0_2,.int .i64 a0_3]) (t:=28) ?hr ?_;(case hd=>rfl);(case hg=>rfl);(case hr=>exact hz);intro gb167 hg w_0 hbox hb;have BK167:=Aside0.mk (hbox);have GW167:=Aside0.mk ((gz:w.heap.size≤gb167));have GE167:=Aside0.mk ((gz:w.heap.size≤gb167));replace HB:=Aside0.mk (below_step bz hb);clear hb hbox hg;obtain ⟨hcz_0_0,hcz_0_1,hcz_0_2,hcz_0_3⟩:=cz4 BK167.out;obtain ⟨hfz_0_0,hfz_0_1,hfz_0_2,hfz_0_3⟩:=cf4 BK167.out))
 go_ret
 exact ⟨xz,bg GE167⟩):p:=h
set_option maxHeartbeats 8000000 in
set_option maxRecDepth 100000 in
theorem site_isZero.calls (a0_0:Int) (a0_1:Int) (A0_2:Option Addr) (c0_2:Nat) (l0_2:List (S113)) (a0_3:Int) (r:Bool) (w:World) (hr0_2:Kd.C k113 w A0_2 l0_2.length l0_2) (hc0_2:l0_2.length≤c0_2) (h:site_isZero.f a0_0 a0_1 l0_2 a0_3=some r) :
    Calls Tryz.prog 43 #[.agg #[.int .i64 a0_0,.int .i64 a0_1,.slice A0_2 l0_2.length c0_2,.int .i64 a0_3]] w fun e w'=>e=.returned (.bool r)∧Below w.heap.size w w':=by
 have hu28:=Tryz.underlying28;have hu23:=Tryz.underlying23;have HR0_2:=Aside0.mk hr0_2;have HC0_2:=Aside0.mk hc0_2;clear hr0_2 hc0_2;have HB:=Aside0.mk (Below.refl w.heap.size w);have H:=h;unfold site_isZero.f at H;clear h;by_cases c2:(a0_0 == 0 && (a0_1 == 0))=true;rotate_left
 · rw [if_neg c2] at H;have c2b0:(a0_0 == 0 && (a0_1 == 0))=false:=by simpa using c2
   (try (have c2b1:decide (a0_0=0 && (a0_1 == 0))=false:=by simpa using c2));(try (have c2b2:(a0_0 == 0 && (a0_1 == 0))=false:=by simpa using c2));(try (have c2b3:¬ (a0_0=0 && (a0_1 == 0)):=by simpa using c2));clear c2;obtain rfl:=Option.some.inj H;exact y30
 rw [if_pos c2] at H;have c2b0:(a0_0 == 0 && (a0_1 == 0))=true:=c2;(try (have c2b1:decide (a0_0=0 && (a0_1 == 0))=true:=by simpa using c2));(try (have c2b2:(a0_0 == 0 && (a0_1 == 0))=true:=by simpa using c2));clear c2;by_cases c3:(l0_2.length:Int)=0
 · rw [if_pos c3] at H;have c3b0:=beq_iff_eq.mpr c3;have c3b1:=bne_eq_false_iff_eq.mpr c3;clear c3;obtain rfl:=Option.some.inj H;exact y30
 rw [if_neg c3] at H;have c3b0:=beq_eq_false_iff_ne.mpr c3;have c3b1:=bne_iff_ne.mpr c3;have c3b2:¬ (l0_2=[]):=fun h_=>c3 (by rw [h_];rfl)
 obtain rfl:=Option.some.inj H;exact y30
end Go.Proofs.YtmcfpcgpjppfkaaGreatDoor.PB
namespace Go.Proofs.YtmcfpcgpjppfkaaGreatDoor.PB
open Go.RowKit Go.Proofs.YtmcfpcgpjppfkaaGreatDoorW.PrintWords Go.Proofs.YtmcfpcgpjppfkaaGreatDoorW.PrintLast
set_option linter.unusedVariables false
set_option linter.unusedSimpArgs false
def riposteref16_In.f (a0:Int) (a1:Int) (a2:Int):Option (Bool):=if a0 ≥ a1 then (some (decide (a0≤a2))) else (some false)
set_option maxHeartbeats 8000000 in
set_option maxRecDepth 100000 in
theorem riposteref16_In.calls (a0:Int) (a1:Int) (a2:Int) (r:Bool) (w:World) (h:riposteref16_In.f a0 a1 a2=some r) :
    Calls Tryz.prog 20 #[.int .i64 a0,.int .i64 a1,.int .i64 a2] w fun e w'=>e=.returned (.bool r)∧Drawn0 w w':=by
 have H:=h;unfold riposteref16_In.f at H;clear h;by_cases c4:a0 ≥ a1
 · rw [if_pos c4] at H;have c4b0:decide (a1≤a0)=true:=decide_eq_true c4;clear c4;obtain rfl:=Option.some.inj H;go_enter Tryz.func20,Tryz.ntmps20
   go_wp2
   go_ret
   exact ⟨by first | rfl | (simp;done) | (simp [*];done),by repeat (first | exact Drawn0.refl _ | apply Drawn0.step)⟩
 rw [if_neg c4] at H;have c4b0:decide (a1≤a0)=false:=decide_eq_false c4;clear c4;obtain rfl:=Option.some.inj H;go_enter Tryz.func20,Tryz.ntmps20
 go_wp2
 go_ret
 exact ⟨by first | rfl | (simp;done) | (simp [*];done),by repeat (first | exact Drawn0.refl _ | apply Drawn0.step)⟩
end Go.Proofs.YtmcfpcgpjppfkaaGreatDoor.PB
namespace Go.Proofs.YtmcfpcgpjppfkaaGreatDoor.PB
open Go.RowKit Go.Proofs.YtmcfpcgpjppfkaaGreatDoorW.PrintWords Go.Proofs.YtmcfpcgpjppfkaaGreatDoorW.PrintLast
set_option linter.unusedVariables false
set_option linter.unusedSimpArgs false
def riposteref24_isPlace.f (a0_0:Int) (a0_1:Int):Option (Bool):=(riposteref16_In.f a0_0 0 23).bind fun t194=>(if t194=true then ((riposteref16_In.f a0_1 0 5999).bind fun t195=>(some t195)) else (some false))
theorem y15 {p:Prop} (h:p:=by
 go_enter Tryz.func21,Tryz.ntmps21
 go_wp2_with (first | ((with_reducible refine gate_dst (N:=1) rfl ?_);refine box_event ?hg (N:=1) ?hd (cs:=#[.int .i64 a0_0,.int .i64 a0_1]) (t:=23) ?hr ?_;(case hd=>rfl);(case hg=>rfl);(case hr=>exact hz);intro gb193 hg w_0 hbox hb;have BK193:=Aside0.mk (hbox);have GW193:=Aside0.mk ((gz:w.heap.size≤gb193));have GE193:=Aside0.mk ((gz:w.heap.size≤gb193));replace HB:=Aside0.mk (below_step bz hb);clear hb hbox hg;have hcz_0_0:w_0.cell? ⟨gb193,0,none⟩=some (.int .i64 a0_0):=(blk_cell BK193.out 0).trans rfl;have hcz_0_1:w_0.cell? ⟨gb193,1,none⟩=some (.int .i64 a0_1):=(blk_cell BK193.out 1).trans rfl;have hfz_0_0:=blk_frozen BK193.out 0;have hfz_0_1:=blk_frozen BK193.out 1) | ((with_reducible refine gate_callee (f:=20) rfl ?_);refine goesL_ (some 5) rfl rfl Tryz.func20 (by kernel_rfl) rfl #[.int .i64 a0_0,.int .i64 0,.int .i64 23] rfl lz ?_;(with_reducible refine (riposteref16_In.calls a0_0 0 23 _ _ A2.out).mono ?_);rintro e w' ⟨rfl,⟨nd,rfl⟩⟩;refine ⟨_,rfl,?_⟩) | (go_at_call 20;(with_reducible refine (riposteref16_In.calls a0_1 0 5999 t195 _ A4.out).mono ?_);rintro e w' ⟨rfl,⟨nd,rfl⟩⟩))
 go_ret
 exact ⟨xz,bg GE193⟩):p:=h
set_option maxHeartbeats 8000000 in
set_option maxRecDepth 100000 in
theorem riposteref24_isPlace.calls (a0_0:Int) (a0_1:Int) (r:Bool) (w:World) (h:riposteref24_isPlace.f a0_0 a0_1=some r) :
    Calls Tryz.prog 21 #[.agg #[.int .i64 a0_0,.int .i64 a0_1]] w fun e w'=>e=.returned (.bool r)∧Below w.heap.size w w':=by
 have hu23:=Tryz.underlying23;have HB:=Aside0.mk (Below.refl w.heap.size w);have H:=h;unfold riposteref24_isPlace.f at H;clear h;replace H:=Option.bind_eq_some_iff.mp H;obtain ⟨t194,A20,H⟩:=H;have A2:=Aside0.mk A20;clear A20;by_cases c3:t194=true;rotate_left
 · replace c3:=Bool.eq_false_iff.mpr c3;subst c3;rw [if_neg (show ¬ (false=true) by decide)] at H;obtain rfl:=Option.some.inj H;exact y15
 subst c3;rw [if_pos rfl] at H;replace H:=Option.bind_eq_some_iff.mp H;obtain ⟨t195,A40,H⟩:=H;have A4:=Aside0.mk A40;clear A40;obtain rfl:=Option.some.inj H;exact y15
end Go.Proofs.YtmcfpcgpjppfkaaGreatDoor.PB
namespace Go.Proofs.YtmcfpcgpjppfkaaGreatDoor.PB
open Go.RowKit Go.Proofs.YtmcfpcgpjppfkaaGreatDoorW.PrintWords Go.Proofs.YtmcfpcgpjppfkaaGreatDoorW.PrintLast
set_option linter.unusedVariables false
set_option linter.unusedSimpArgs false
def riposteref24_two.f (a0:Int):Option (List Int):=some (([(wrap64 (Int.tdiv a0 256)) % 256,(Int.tmod a0 256) % 256]:List Int))
set_option maxHeartbeats 8000000 in
set_option maxRecDepth 100000 in
theorem riposteref24_two.calls (a0:Int) (r:List Int) (w:World) (h:riposteref24_two.f a0=some r) :
    Calls Tryz.prog 23 #[.int .i64 a0] w fun e w' => ∃ v0_:Value,e=.returned (v0_)∧Kd.R (Kd.int .u8) 5 w' w.heap.size (fun _=>True) v0_ r∧Below w.heap.size w w':=by
 have HB:=Aside0.mk (Below.refl w.heap.size w);have H:=h;unfold riposteref24_two.f at H;clear h;obtain ⟨y201,hy201⟩ : ∃ y_:List Int,y_=(([(wrap64 (Int.tdiv a0 256)) % 256,(Int.tmod a0 256) % 256]:List Int)):=⟨_,rfl⟩
 replace H:(some y201)=some r:=wz hy201;have Ny201:=Aside0.mk hy201;clear hy201;obtain rfl:=Option.some.inj H;go_enter Tryz.func23,Tryz.ntmps23
 go_wp2_with (first | ((with_reducible refine gate_dst (N:=9) rfl ?_);refine Kd.R_lit (Kd.int .u8) _ 5 ?hg (N:=9) ?hd (xs:=([(wrap64 (Int.tdiv a0 256)) % 256,(Int.tmod a0 256) % 256]:List Int)) (inner:=[.int .u8 ((wrap64 (Int.tdiv a0 256)) % 256),.int .u8 ((Int.tmod a0 256) % 256)]) (ok:=fun _=>True) (okp:=fun _=>True) ?hr ?hp (fun _ hk=>hk) trivial (Below.refl _ _) (Nat.le_refl _) (by simp) ?_;(case hd=>rfl);(case hg=>rfl);(case hr=>exact hz);(case hp=>exact (Reps.one (show Kd.M (Kd.int .u8) _ _ _ ((wrap64 (Int.tdiv a0 256)) % 256) [.int .u8 ((wrap64 (Int.tdiv a0 256)) % 256)] from rfl) (Reps.one (show Kd.M (Kd.int .u8) _ _ _ ((Int.tmod a0 256) % 256) [.int .u8 ((Int.tmod a0 256) % 256)] from rfl) (Reps.none _ _))));intro v202 w2 ho3 hb hg_ hnew_;clear hg_ hnew_;(first | rw [← Ny201.out] at ho3 | (simp only [Int.reduceToNat] at ho3;rw [← Ny201.out] at ho3));have HO203:=Aside0.mk (Kd.R_lower ho3 (below_size bz));replace HB:=Aside0.mk (below_step bz hb);clear hb ho3))
 go_ret
 exact ⟨_,xz,rz HO203,bz⟩
end Go.Proofs.YtmcfpcgpjppfkaaGreatDoor.PB
namespace Go.Proofs.YtmcfpcgpjppfkaaGreatDoor.PB
open Go.RowKit Go.Proofs.YtmcfpcgpjppfkaaGreatDoorW.PrintWords Go.Proofs.YtmcfpcgpjppfkaaGreatDoorW.PrintLast
set_option linter.unusedVariables false
set_option linter.unusedSimpArgs false
def IsR (T:Nat) (w0 W:World) (g:Nat) (xs:List Int):Prop:=∃ A c,W.heap[g]?=some (.cells #[.slice A xs.length c] T (0,0))∧w0.heap.size≤g∧xs.length≤c∧Kd.C (Kd.int .u8) w0 A xs.length xs
theorem IsR.grown {T:Nat} {w0 W:World} {g:Nat} {f0:List Int} {W1:World} {row:Option Nat} (h:IsR T w0 W g f0) (hw:W.grownBy W1 row) (hne:some g≠row):IsR T w0 W1 g f0:=by
 obtain ⟨A,c,hb,hg,hq⟩:=h;exact ⟨A,c,blk_grown hb hw hne,hg,hq⟩
theorem IsR.fresh {T:Nat} {w0 W:World} {g:Nat} {f0:List Int} (h:IsR T w0 W g f0) : ∀ k,W.heap.size≤k→k≠g:=by
 obtain ⟨A,c,hb,hg,hq⟩:=h;exact Kd.freshB hb
theorem IsR.kept {T:Nat} {w0 W:World} {g:Nat} {f0:List Int} {W1:World} {S:Nat→Prop} (h:IsR T w0 W g f0) (hk:Kept W W1 S) (hne:¬ S g):IsR T w0 W1 g f0:=by
 obtain ⟨A,c,hb,hg,hq⟩:=h;exact ⟨A,c,blk_kept hb hk hne,hg,hq⟩
theorem IsR.below {T:Nat} {w0 W:World} {g:Nat} {f0:List Int} {W1:World} (h:IsR T w0 W g f0) (hw:Below W.heap.size W W1):IsR T w0 W1 g f0:=h.grown (grown_of_below hw none) (by simp)
theorem IsR.alloc {T:Nat} {w0 W:World} {g:Nat} {f0:List Int} (h:IsR T w0 W g f0) (o:Obj):IsR T w0 (W.alloc o) g f0:=h.below (below_alloc (Below.refl _ _) o)
theorem IsR.drewN {T:Nat} {w0 W:World} {g:Nat} {f0:List Int} (h:IsR T w0 W g f0) (m:Nat):IsR T w0 (W.drewN m) g f0:=h
theorem IsR.drew {T:Nat} {w0 W:World} {g:Nat} {f0:List Int} (h:IsR T w0 W g f0):IsR T w0 W.drew g f0:=h
theorem IsR.at_ {T:Nat} {w0 W:World} {g:Nat} {f0:List Int} {w':World} {m:Nat} (hq:W.drewN m=w') (h:IsR T w0 W g f0):IsR T w0 w' g f0:=by subst hq;exact IsR.drewN h m
theorem IsR.apart {T:Nat} {w0 W:World} {g:Nat} {f0:List Int} {α:Type} {d:Kd α} {e:Nat} {base:Nat} {ok:Nat→Prop} {v:Value} {xs:List α} (h:IsR T w0 W g f0) (ho:d.R e W base ok v xs) (ht : ∀ q,q ∈ e :: d.E→q≠T):d.R e W base (fun k=>ok k∧k≠g) v xs:=by
 obtain ⟨A,c,hb,hg,hq⟩:=h;exact Kd.R_types ho hb ht
theorem IsR.own_ne {T:Nat} {w0 W:World} {g:Nat} {f0:List Int} {α:Type} {d:Kd α} {e:Nat} {base:Nat} {ok:Nat→Prop} {v:Value} {xs:List α} (h:IsR T w0 W g f0) (ho:d.R e W base ok v xs) (ht:e≠T):some g≠v.ownBlock:=by
 obtain ⟨A,c,hb,hg,hq⟩:=h;exact Kd.R_ne ho hb ht
theorem IsR.lt {T:Nat} {w0 W:World} {g:Nat} {f0:List Int} (h:IsR T w0 W g f0):g<W.heap.size:=by
 obtain ⟨A,c,hb,hg,hq⟩:=h;exact blk_lt hb
theorem IsR.ge {T:Nat} {w0 W:World} {g:Nat} {f0:List Int} (h:IsR T w0 W g f0):w0.heap.size≤g:=by
 obtain ⟨A,c,hb,hg,hq⟩:=h;exact hg
theorem IsR.far {T:Nat} {w0 W:World} {g:Nat} {f0:List Int} {p:Addr} (h:IsR T w0 W g f0) (hne:g≠p.block) (u:Value):IsR T w0 (W.setCell p u) g f0:=by
 obtain ⟨A,c,hb,hg,hq⟩:=h;exact ⟨A,c,blk_far hb hne u,hg,hq⟩
theorem IsR.new {T:Nat} (w0 W:World) (A:Option Addr) (c:Nat) (xs:List Int) (hB:Below w0.heap.size w0 W) (hc:xs.length≤c) (hC:Kd.C (Kd.int .u8) w0 A xs.length xs):IsR T w0 (W.alloc (.cells #[.slice A xs.length c] T)) W.heap.size xs:=⟨A,c,by simpa using heap_alloc_new W _,hB.size,hc,hC⟩
def riposteref24_reader_one.f (s0_0:List Int) (l1:List Int):Option (Int × List Int):=match s0_0 with
  | []=>some (0,[])
  | x :: r=>some (wrap64 x,r)
set_option maxHeartbeats 8000000 in
set_option maxRecDepth 100000 in
theorem riposteref24_reader_one.calls (g:Nat) (s0_0:List Int) (l1:List Int) (r1:Int) (r2:List Int) (w0 w:World) (hI:IsR 85 w0 w g s0_0) (hB:Below w0.heap.size w0 w) (h:riposteref24_reader_one.f s0_0 l1=some (r1,r2)) :
    Calls Tryz.prog 28 #[.pointer (some ⟨g,0,none⟩)] w fun e w'=>e=.returned (.int .i64 r1)∧IsR 85 w0 w' g r2∧Below w0.heap.size w0 w'∧KeepBut w w' g none:=by
  obtain ⟨A,c,hbk,hge,hlc,hC⟩:=hI
  have HK:=Aside0.mk (KeepBut.refl w g none)
  cases s0_0 with
  | nil =>
    simp only [riposteref24_reader_one.f,Option.some.injEq,Prod.mk.injEq] at h
    obtain ⟨rfl,rfl⟩:=h
    have hcz:=(blk_cell hbk 0).trans rfl
    have hfz:=blk_frozen hbk 0
    have HI0:=Aside0.mk (show IsR 85 w0 w g [] from ⟨A,c,hbk,hge,hlc,hC⟩)
    have HB:=Aside0.mk hB
    clear hbk hC hlc hB
    simp only [List.length_nil] at hcz
    go_enter Tryz.func28,Tryz.ntmps28
    go_wp2
    go_ret
    exact ⟨rfl,HI0.out,HB.out,HK.out⟩
  | cons x xs =>
    simp only [riposteref24_reader_one.f,Option.some.injEq,Prod.mk.injEq] at h
    obtain ⟨rfl,rfl⟩:=h
    have hcz:=(blk_cell hbk 0).trans rfl
    have hfz:=blk_frozen hbk 0
    obtain ⟨ad,e,hx⟩:=Kd.at_int (Kd.C_below hC hB) 0 (by decide) (by simp)
    cases e
    have hx1:w.cell? ad=some (.int .u8 x):=hx
    obtain ⟨i0,hi0,_,hsz,_⟩:=info_parts info5
    obtain ⟨A2,hcut,hA2,hC2⟩:=print_drop_of (P:=Tryz.prog) (Value.int .u8) 0 31 5 .i64 Tryz.underlying31 hi0 hsz (some ad) c (x :: xs) 1 (by decide) (by simp;omega) hlc
    have HC2:=Aside0.mk (Kd.C_of_reads (h1:=fun _=>rfl) (hA2 w0 (Kd.reads_of_C (d:=0) hC)))
    have HL2:=Aside0.mk hC2
    have HBK:=Aside0.mk hbk
    have HB:=Aside0.mk hB
    have HG:=Aside0.mk hge
    clear hA2 hC2 hC hlc hB hbk hge hi0 hsz hx
    simp only [List.length_cons] at hcz hcut
    go_enter Tryz.func28,Tryz.ntmps28
    go_wp2
    go_ret
    exact ⟨rfl,⟨A2,_,(by simpa using blk_set HBK.out 0 _),HG.out,HL2.out,HC2.out⟩,below_set HB.out HG.out,KeepBut.set_ HK.out 0 _⟩
end Go.Proofs.YtmcfpcgpjppfkaaGreatDoor.PB
namespace Go.Proofs.YtmcfpcgpjppfkaaGreatDoor.PB
open Go.RowKit Go.Proofs.YtmcfpcgpjppfkaaGreatDoorW.PrintWords Go.Proofs.YtmcfpcgpjppfkaaGreatDoorW.PrintLast
set_option linter.unusedVariables false
set_option linter.unusedSimpArgs false
def FMap (tab:Int→Option Value) (es:List MapEntry):Prop:=∀ (k:Int) (i:Nat),∃ j,Instr.findNow (.int .i64) (.int .i64 k) es i=some ((tab k).map fun v=>(j,v))
theorem FMap.nil (tab:Int→Option Value) (h : ∀ k,tab k=none):FMap tab []:=fun k i=>⟨0,by rw [h k];rfl⟩
theorem FMap.congr {tab tab':Int→Option Value} {es:List MapEntry} (h:FMap tab es) (e : ∀ k,tab k=tab' k):FMap tab' es:=(funext e:tab=tab') ▸ h
theorem FMap.push {tab tab':Int→Option Value} {es:List MapEntry} (h:FMap tab es) (k0:Int) (v:Value) (born:Nat) (h0:tab k0=none) (h1:tab' k0=some v) (h2 : ∀ k,k≠k0→tab' k=tab k):FMap tab' (es ++ [{ key:=.int .i64 k0,val:=v,born:=born }]):=by
  intro k
  have key : ∀ (es:List MapEntry) (i:Nat) (r:Option (Nat × Value)),Instr.findNow (.int .i64) (.int .i64 k) es i=some r →
      Instr.findNow (.int .i64) (.int .i64 k) (es ++ [{ key:=.int .i64 k0,val:=v,born:=born }]) i=some (match r with | some x=>some x | none=>if k=k0 then some (i+es.length,v) else none):=by
    intro es
    induction es with
    | nil =>
      intro i r hr
      have:r=none:=by
        have:=hr
        simp [Instr.findNow] at this
        exact this.symm
      subst this
      by_cases hk:k=k0
      · subst hk;simp [Instr.findNow,Instr.sameNow]
      · have hb:(k == k0)=false:=by simpa using hk
        simp [Instr.findNow,Instr.sameNow,hk,hb]
    | cons e es ih =>
      intro i r hr
      simp only [List.cons_append,Instr.findNow] at hr ⊢
      cases hs:Instr.sameNow (.int .i64) (.int .i64 k) e.key with
      | none=>rw [hs] at hr;simp at hr
      | some b =>
        cases b with
        | true=>rw [hs] at hr;simp only [Option.some.injEq] at hr ⊢;subst hr;rfl
        | false =>
          rw [hs] at hr
          simp only at hr ⊢
          rw [ih (i+1) r hr]
          cases r with
          | some x=>rfl
          | none=>simp only [List.length_cons,Nat.add_assoc,Nat.add_comm 1]
  intro i
  obtain ⟨j,hj⟩:=h k i
  have:=key es i _ hj
  by_cases hk:k=k0
  · subst hk
    rw [h0] at this
    exact ⟨i+es.length,by rw [this,h1];simp⟩
  · refine ⟨j,?_⟩
    rw [this,h2 k hk]
    cases tab k with
    | some x=>rfl
    | none=>simp [hk]
def fieldOf (k:Int):Option (Int × Int × Int) :=
  if k=0 then some (1,0,3)
  else if k=1 then some (1,1,8)
  else if k=2 then some (1,0,23)
  else if k=3 then some (1,0,255)
  else if k=4 then some (1,0,63)
  else if k=5 then some (2,0,5999)
  else if k=6 then some (1,0,5)
  else if k=7 then some (1,0,200)
  else if k=8 then some (1,0,1)
  else if k=9 then some (2,0,20000)
  else none
def fieldV (k:Int):Option Value:=(fieldOf k).map fun f=>.agg #[.int .i64 f.1,.int .i64 f.2.1,.int .i64 f.2.2]
def site_fields.T1:Bool × List (List Nat × List Nat):=(true,[([],[]),([],[]),([0,1],[0,1]),([],[]),([0,3],[0,3]),([],[]),([0,5],[0,5]),([],[]),([0,7],[0,7]),([],[]),([0,9],[0,9]),([],[]),([0,11],[0,11]),([],[]),([0,13],[0,13]),([],[]),([0,15],[0,15]),([],[]),([0,17],[0,17]),([],[]),([0,19],[0,19]),([0,1,2,3,4,5,6,7,8,9,10,11,12,13,14,15,16,17,18,19,20],[0]),([21,0,1,2,3,4,5,6,7,8,9,10,11,12,13,14,15,16,17,18,19,20,21],[21])])
def site_fields.B1:List Nat:=[0,0,3,0,9,0,33,0,129,0,513,0,2049,0,8193,0,32769,0,131073,0,524289,2097151,4194303]
theorem site_fields.tab1:rtab .any (opsOf Tryz.f44 1)=site_fields.T1:=by kernel_rfl
theorem site_fields.bits1:waitsOk site_fields.T1.2 site_fields.B1=true:=by kernel_rfl
section
variable {P:Program} {ops:Array Oper} {rest:List Oper} {o:Oper} {a:Act} {Q:Exit→Act→World→Prop}
theorem gate_insert {W:World} {t:TypeId} {m x:Tmp} {k:Int} (_h:o.op=.insert t (.tmp m) (.const (.int .i64 k)) (.tmp x)) (h:wpList P ops Q (o :: rest) a W):wpList P ops Q (o :: rest) a W:=h
theorem newmap_event {W:World} (hgd:o.guard=none) {N:Tmp} (hd:o.dst=some N) {t:TypeId} (ho:o.op=.makeMap t none)
    (h : ∀ r,r=W.heap.size → ∀ w1,w1.heap[r]?=some (.map #[] 0)→Below W.heap.size W w1→wpList P ops Q rest (a.put o.dst (.map (some r))) w1):wpList P ops Q (o :: rest) a W:=by
  have hrun:(execOp a.eval o).run P W=.ok (.value (.map (some W.heap.size))) (W.alloc (.map #[] 0)):=by
    unfold execOp;rw [ho];rfl
  exact Kd.event_run hgd hrun (h _ rfl _ (blk_new W _) (below_alloc (Below.refl _ _) _))
theorem insert_event {w W:World} (hgd:o.guard=none) (hd:o.dst=none) {t kt e:TypeId} {m x:Tmp} {n:Int} (ho:o.op=.insert t (.tmp m) (.const (.int .i64 n)) (.tmp x))
    (ht:P.underlying t=some (.map kt e)) (hk:P.underlying kt=some (.int .i64)) {r:Nat} {v:Value} {es:Array MapEntry} {c:Nat} {tab:Int→Option Value}
    (hm:a.eval (.tmp m)=.map (some r)) (hx:a.eval (.tmp x)=v) (hb:W.heap[r]?=some (.map es c)) (hF:FMap tab es.toList) (h0:tab n=none) (hB:Below w.heap.size w W) (hr:w.heap.size≤r)
    (h : ∀ W' es' c',W'.heap[r]?=some (.map es' c')→FMap (fun k=>if k=n then some v else tab k) es'.toList→Below w.heap.size w W'→wpList P ops Q rest a W'):wpList P ops Q (o :: rest) a W:=by
  obtain ⟨j,hj⟩:=hF n 0
  rw [h0] at hj
  have hrun:(execOp a.eval o).run P W=.ok .skip { W with heap:=W.heap.setIfInBounds r (.map (es.push ⟨.int .i64 n,v,c⟩) (c+1)) } := by
    unfold execOp;rw [ho]
    show ((Instr.mapUpdate t (a.eval (.tmp m)) (.int .i64 n) (a.eval (.tmp x))).bind _).run P W=_
    rw [hm,hx]
    have hkk:MapKept.IsKey (.int .i64) (.int .i64 n):=rfl
    have:(Instr.mapUpdate t (.map (some r)) (.int .i64 n) v).run P W=.ok () { W with heap:=W.heap.setIfInBounds r (.map (es.push ⟨.int .i64 n,v,c⟩) (c+1)) } := by
      simp [Instr.mapUpdate,run_underlying ht,MapKept.run_getObj_map hb,MapKept.run_checkKey hk hkk,MapKept.run_findKey hk hj,MapKept.run_setObj_map _ hb,Result.andThen]
    show Sem.run P (Bind.bind (Instr.mapUpdate t (.map (some r)) (.int .i64 n) v) _) W=_
    rw [Sem.run_bind,this];rfl
  refine wpList_plain hgd fun K hK => ?_
  unfold Oper.wp
  rw [hrun]
  show K (a.put o.dst undef) _
  rw [hd]
  refine hK _ _ (h _ _ _ (MapKept.heap_set hb).1 ?_ ?_)
  · rw [Array.toList_push];exact FMap.push hF n v c h0 (if_pos rfl) (fun k hk=>if_neg hk)
  · exact ⟨hB.os,hB.tape,hB.output,by simpa using hB.size,fun k hk=>((MapKept.heap_set hb).2 k (by omega)).trans (hB.block k hk)⟩
end
end Go.Proofs.YtmcfpcgpjppfkaaGreatDoor.PB
namespace Go.Proofs.YtmcfpcgpjppfkaaGreatDoor.PB
open Go.RowKit Go.Proofs.YtmcfpcgpjppfkaaGreatDoorW.PrintWords Go.Proofs.YtmcfpcgpjppfkaaGreatDoorW.PrintLast
set_option linter.unusedVariables false
set_option linter.unusedSimpArgs false
set_option maxHeartbeats 8000000 in
set_option maxRecDepth 100000 in
theorem site_fields.calls (w:World):Calls Tryz.prog 44 #[] w fun e w' => ∃ r es c,e=.returned (.map (some r))∧w'.heap[r]?=some (.map es c)∧FMap fieldV es.toList∧Below w.heap.size w w':=by
  have HB:=Aside0.mk (Below.refl w.heap.size w)
  go_enter Tryz.func44,Tryz.ntmps44
  have HF:=Aside0.mk (FMap.nil (fun _=>none) (fun _=>rfl))
  go_wp2_with (first
    | ((with_reducible refine gate_dst (N:=1) rfl ?_);refine newmap_event rfl (N:=1) rfl rfl ?_;intro r hg_ w1 hb_ hB_;have HM:=Aside0.mk hb_;have HG:=Aside0.mk (Nat.le_of_eq hg_.symm);replace HB:=Aside0.mk (below_step HB.out hB_);clear hb_ hB_ hg_)
    | ((with_reducible refine gate_insert rfl ?_);refine insert_event (w:=w) (r:=r) rfl rfl rfl Tryz.underlying116 Tryz.underlying3 rfl rfl HM.out HF.out ?h0 HB.out HG.out ?_;(case h0=>simp);clear HB HM HF;intro w1 es c hb_ hf_ hB_;have HM:=Aside0.mk hb_;have HF:=Aside0.mk hf_;have HB:=Aside0.mk hB_;clear hb_ hf_ hB_))
  go_ret
  refine ⟨r,_,_,rfl,HM.out,FMap.congr HF.out (fun k => ?_),HB.out⟩
  by_cases e0:k=0
  · subst e0;rfl
  by_cases e1:k=1
  · subst e1;rfl
  by_cases e2:k=2
  · subst e2;rfl
  by_cases e3:k=3
  · subst e3;rfl
  by_cases e4:k=4
  · subst e4;rfl
  by_cases e5:k=5
  · subst e5;rfl
  by_cases e6:k=6
  · subst e6;rfl
  by_cases e7:k=7
  · subst e7;rfl
  by_cases e8:k=8
  · subst e8;rfl
  by_cases e9:k=9
  · subst e9;rfl
  simp only [fieldV,fieldOf,e0,e1,e2,e3,e4,e5,e6,e7,e8,e9,if_false];rfl
end Go.Proofs.YtmcfpcgpjppfkaaGreatDoor.PB
namespace Go.Proofs.YtmcfpcgpjppfkaaGreatDoor.PB
open Go.RowKit Go.Proofs.YtmcfpcgpjppfkaaGreatDoorW.PrintWords Go.Proofs.YtmcfpcgpjppfkaaGreatDoorW.PrintLast
set_option linter.unusedVariables false
set_option linter.unusedSimpArgs false
theorem lookup_run {w:World} {r:Nat} {es:Array MapEntry} {c:Nat} {tab:Int→Option Value} {n:Int} {v:Value} (hb:w.heap[r]?=some (.map es c)) (hF:FMap tab es.toList) (h0:tab n=some v) :
    Sem.run Tryz.prog (Instr.lookup 116 (.map (some r)) (.int .i64 n) false) w=.ok v w:=by
  obtain ⟨j,hj⟩:=hF n 0
  rw [h0] at hj
  have hkk:MapKept.IsKey (.int .i64) (.int .i64 n):=rfl
  simp [Instr.lookup,run_underlying Tryz.underlying116,MapKept.run_getObj_map hb,MapKept.run_checkKey Tryz.underlying3 hkk,MapKept.run_findKey Tryz.underlying3 hj,Result.andThen]
def IsW (w0 W:World) (g:Nat) (bs:List Int) (bad:Bool):Prop:=∃ v,W.heap[g]?=some (.cells #[v,.bool bad] 70 (0,0))∧w0.heap.size≤g∧Kd.R (Kd.int .u8) 5 W w0.heap.size (fun k=>k≠g) v bs
def KeepT (w w':World):Prop:=w.heap.size≤w'.heap.size ∧ ∀ (i:Nat) (cs:Array Value) (t:TypeId) (fr:Nat × Nat),w.heap[i]?=some (Obj.cells cs t fr)→t≠5→t≠70→w'.heap[i]?=w.heap[i]?
theorem KeepT.refl (w:World):KeepT w w:=⟨Nat.le_refl _,fun _ _ _ _ _ _ _=>rfl⟩
theorem KeepT.trans {w w1 w2:World} (h:KeepT w w1) (k:KeepT w1 w2):KeepT w w2:=⟨Nat.le_trans h.1 k.1,fun i cs t fr hb h1 h2=>(k.2 i cs t fr ((h.2 i cs t fr hb h1 h2).trans hb) h1 h2).trans (h.2 i cs t fr hb h1 h2)⟩
theorem KeepT.below {w w1 w2:World} (h:KeepT w w1) (k:Below w1.heap.size w1 w2):KeepT w w2:=h.trans ⟨k.size,fun i cs t fr hb _ _=>k.block i (by rcases Nat.lt_or_ge i w1.heap.size with hl | hl;exact hl;rw [Array.getElem?_eq_none hl] at hb;exact absurd hb (by simp))⟩
def putF (k n:Int) (bs:List Int) (bad:Bool):List Int × Bool :=
  match fieldOf k with
  | none=>(bs,bad)
  | some (m,lo,hi)=>if lo≤n∧n≤hi then ((if m > 1 then bs ++ [(n / 256) % 256] else bs) ++ [n % 256],bad) else (bs,true)
end Go.Proofs.YtmcfpcgpjppfkaaGreatDoor.PB
namespace Go.Proofs.YtmcfpcgpjppfkaaGreatDoor.PB
open Go.RowKit Go.Proofs.YtmcfpcgpjppfkaaGreatDoorW.PrintWords Go.Proofs.YtmcfpcgpjppfkaaGreatDoorW.PrintLast
set_option linter.unusedVariables false
set_option linter.unusedSimpArgs false
theorem KeepT.set {w W:World} (h:KeepT w W) {g k:Nat} {cs:Array Value} {t:TypeId} (hb:W.heap[g]?=some (.cells cs t (0,0))) (ht:t=5∨t=70) (u:Value):KeepT w (W.setCell ⟨g,k,none⟩ u):=by
  refine ⟨?_,fun i cs' t' fr hi h5 h48 => ?_⟩
  · have e:(W.setCell ⟨g,k,none⟩ u).heap.size=W.heap.size:=by simp only [World.setCell];split <;> simp
    rw [e];exact h.1
  · have hW:=h.2 i cs' t' fr hi h5 h48
    have hne:i≠g:=by
      rintro rfl
      rw [hW,hi] at hb
      injection hb with hb;injection hb with _ hb
      subst hb
      rcases ht with rfl | rfl <;> contradiction
    exact (Below.heap_setCell W ⟨g,k,none⟩ u i hne).trans hW
theorem KeepT.blk {w W:World} (h:KeepT w W) {g:Nat} {cs:Array Value} {t:TypeId} {fr:Nat × Nat} (hb:w.heap[g]?=some (.cells cs t fr)) (h5:t≠5) (h48:t≠70):W.heap[g]?=some (.cells cs t fr):=(h.2 g cs t fr hb h5 h48).trans hb
theorem KeepT.grown {w w1 w2:World} (h:KeepT w w1) {v:Value} (k:w1.grownBy w2 v.ownBlock) (hty : ∀ k,v.ownBlock=some k → ∃ cells,w1.heap[k]?=some (.cells cells 5 (0,0))):KeepT w w2:=by
  refine h.trans ⟨k.size,fun i cs t fr hb h5 _=>k.block i (blk_lt hb) ?_⟩
  intro he
  obtain ⟨c2,hc⟩:=hty i he.symm
  rw [hb] at hc;injection hc with hc;injection hc with _ hc
  exact h5 hc
end Go.Proofs.YtmcfpcgpjppfkaaGreatDoor.PB
