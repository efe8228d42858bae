/- What the functions of SiteBytes answer on lists. Conditions: those that the theorems state. -/
import Derived.Test.YtmcfpcgpjppfkaaGreatDoorPI
import Derived.Test.YtmcfpcgpjppfkaaGreatDoorPH
import Derived.Test.YtmcfpcgpjppfkaaGreatDoorPC
import Derived.Lib.Bytes
namespace Go.Proofs.YtmcfpcgpjppfkaaGreatDoor.PB
open Go.RowKit Go.Proofs.YtmcfpcgpjppfkaaGreatDoorW.PrintWords Go.Proofs.YtmcfpcgpjppfkaaGreatDoorW.PrintLast
set_option linter.unusedVariables false
set_option linter.unusedSimpArgs false
theorem w64 {n:Int} (h0:0≤n) (h1:n<9223372036854775808):wrap64 n=n:=by unfold wrap64;omega
theorem copyCells_nil (k:Nat):riposteref17_CopyCells.f (k+1) []=some []:=by
  unfold riposteref17_CopyCells.f riposteref17_CopyCells.l0;simp
theorem state_nil (k:Nat) (f:Fr) (h6:f.path.length<5864062014805) (h9:f.gpath.length<5864062014805):riposteref24_State.f (k+1) f.dst f.box f.node f.port f.kind f.n f.path f.gbox f.gnode f.gpath f.gn f.lost f.picks []=some (f.box,f.node,f.port,f.kind,f.n,f.path,[],f.gbox,f.gnode,f.gpath,f.gn,f.lost,f.picks):=by
  unfold riposteref24_State.f riposteref17_CopyState.f
  simp only [List.length_nil,Nat.zero_add,List.nil_append]
  rw [if_pos h6,if_pos h9,copyCells_nil]
  rfl
theorem copy_same (k:Nat) (f:Fr) (h6:f.path.length<5864062014805) (h9:f.gpath.length<5864062014805):riposteref24_CopyFrame.f (k+1) f.dst f.box f.node f.port f.kind f.n f.path f.gbox f.gnode f.gpath f.gn f.lost f.picks=some (f.dst,f.box,f.node,f.port,f.kind,f.n,f.path,f.gbox,f.gnode,f.gpath,f.gn,f.lost,f.picks):=by
  unfold riposteref24_CopyFrame.f
  rw [state_nil k f h6 h9]
  rfl
theorem thinPath_some (l:List S113) : ∃ t,ripostelaw17_ThinPath.f l=some t∧(t=true→l.length≤300):=by
  unfold ripostelaw17_ThinPath.f
  by_cases h:(l.length:Int)≤20
  · exact ⟨true,by rw [if_pos h],fun _=>by omega⟩
  · by_cases h2:(l.length:Int) > 200
    · refine ⟨decide ((l.length:Int)<300),by rw [if_neg h,if_pos h2],fun ht => ?_⟩
      have:=of_decide_eq_true ht;omega
    · exact ⟨false,by rw [if_neg h,if_neg h2],fun h=>by cases h⟩
theorem thin_some (k:Nat) (f:Fr) (h6:f.path.length<5864062014805) (h9:f.gpath.length<5864062014805) : ∃ t,ripostelaw24_ThinFrame.f (k+2) f.dst f.box f.node f.port f.kind f.n f.path f.gbox f.gnode f.gpath f.gn f.lost f.picks []=some t∧(t=true→f.path.length≤300∧f.gpath.length≤300):=by
  obtain ⟨t6,e6,i6⟩:=thinPath_some f.path
  obtain ⟨t9,e9,i9⟩:=thinPath_some f.gpath
  refine ⟨t6 && t9,?_,fun h=>by simp only [Bool.and_eq_true] at h;exact ⟨i6 h.1,i9 h.2⟩⟩
  unfold ripostelaw24_ThinFrame.f
  rw [if_pos (by simp),state_nil (k+1) f h6 h9]
  simp only [Option.bind_some]
  unfold ripostelaw17_ThinState.f
  rw [e6]
  simp only [Option.bind_some]
  cases t6
  · simp [ripostelaw17_ThinState.j0]
  · simp only [if_true,e9,Option.bind_some]
    cases t9
    · simp [ripostelaw17_ThinState.j0]
    · simp [ripostelaw17_ThinState.j0,ripostelaw17_ThinState.l0]
def okHop (h:S113):Bool:=inPl h.f0 h.f1 && inB h.f2 0 5
def okPath (l:List S113):Bool:=l.all okHop && decide (l.length≤200)
theorem rd_drop (l:List S113) (i:Nat) (hi:i<l.length):l.drop i=rd_T113 l (i:Int) :: l.drop (i+1):=by
  rw [List.drop_eq_getElem_cons hi];congr 1;simp [rd_T113,List.getD_eq_getElem?_getD,hi]
theorem isPath_l0 : ∀ (k:Nat) (l:List S113) (i:Nat),i≤l.length→l.length≤100000→l.length<k+i→riposteref24_isPath.l0 k l (i:Int)=some ((l.drop i).all okHop && decide (l.length≤200))
  | 0,l,i,h1,h2,h3=>by omega
  | k + 1,l,i,h1,h2,h3=>by
    unfold riposteref24_isPath.l0
    by_cases hi:i<l.length
    · rw [if_pos (by omega),if_pos (by omega),inPl_f,rd_drop l i hi]
      simp only [Option.bind_some,List.all_cons,okHop]
      cases hp:inPl (rd_T113 l (i:Int)).f0 (rd_T113 l (i:Int)).f1
      · simp
      · simp only [if_true,inB_f,Option.bind_some]
        cases hq:inB (rd_T113 l (i:Int)).f2 0 5
        · simp
        · simp only [if_true,Bool.true_and]
          rw [w64 (by omega) (by omega),show ((i:Int)+1)=((i+1:Nat):Int) by omega]
          exact isPath_l0 k l (i+1) (by omega) h2 (by omega)
    · rw [if_neg (by omega),List.drop_eq_nil_of_le (by omega)]
      simp only [List.all_nil,Bool.true_and]
      congr 1
      exact decide_eq_decide.mpr (by omega)
theorem isPath_some (k:Nat) (l:List S113) (h:l.length≤1000) (hk:1000<k):riposteref24_isPath.f k l=some (okPath l):=by
  unfold riposteref24_isPath.f okPath
  have:=isPath_l0 k l 0 (by omega) (by omega) (by omega)
  simpa using this
def hopEnc (h:S113):List Int:=[h.f0 % 256,h.f2 % 256] ++ twoB h.f1
def pathEnc (l:List S113):List Int:=[(l.length:Int) % 256] ++ l.flatMap hopEnc
theorem hopEnc_len (h:S113):(hopEnc h).length=4:=rfl
theorem flat_len : ∀ l:List S113,(l.flatMap hopEnc).length=4*l.length
  | []=>rfl
  | h :: r=>by rw [List.flatMap_cons,List.length_append,hopEnc_len,flat_len r,List.length_cons];omega
theorem pathEnc_len (l:List S113):(pathEnc l).length=1+4*l.length:=by unfold pathEnc;rw [List.length_append,flat_len];rfl
theorem pathBytes_l0 : ∀ (k:Nat) (l:List S113) (bs:List Int) (i:Nat),i≤l.length→l.length≤100000→l.length<k+i→bs.length≤1000000+4*i→riposteref24_pathBytes.l0 k l bs (i:Int)=some (bs ++ (l.drop i).flatMap hopEnc)
  | 0,l,bs,i,h1,h2,h3,h4=>by omega
  | k+1,l,bs,i,h1,h2,h3,h4=>by
    unfold riposteref24_pathBytes.l0
    by_cases hi:i<l.length
    · rw [if_pos (by omega),if_pos (by omega),rd_drop l i hi]
      simp only [Option.bind_some,List.length_cons,List.length_nil]
      rw [if_pos (by omega),show riposteref24_two.f (rd_T113 l (i:Int)).f1=some (twoB (rd_T113 l (i:Int)).f1) from rfl]
      simp only [Option.bind_some]
      rw [if_pos (by simp [twoB];omega),w64 (by omega) (by omega),show ((i:Int)+1)=((i+1:Nat):Int) by omega,pathBytes_l0 k l _ (i+1) (by omega) h2 (by omega) (by simp [twoB];omega)]
      rw [List.flatMap_cons]
      simp [hopEnc]
    · rw [if_neg (by omega),List.drop_eq_nil_of_le (by omega)]
      simp
theorem pathBytes_some (k:Nat) (l:List S113) (h:l.length≤1000) (hk:1000<k):riposteref24_pathBytes.f k l=some (pathEnc l):=by
  unfold riposteref24_pathBytes.f pathEnc
  have:=pathBytes_l0 k l [(l.length:Int) % 256] 0 (by omega) (by omega) (by omega) (by simp)
  simpa using this
end Go.Proofs.YtmcfpcgpjppfkaaGreatDoor.PB
namespace Go.Proofs.YtmcfpcgpjppfkaaGreatDoor.PB
open Go.RowKit Go.Proofs.YtmcfpcgpjppfkaaGreatDoorW.PrintWords Go.Proofs.YtmcfpcgpjppfkaaGreatDoorW.PrintLast
set_option linter.unusedVariables false
set_option linter.unusedSimpArgs false
def Rep (s:List Int × Bool) (bs:List Int) (ok:Bool):Prop:=(ok=true→s=(bs,false))∧(ok=false→s.2=true)
theorem Rep.to {s:List Int × Bool} {bs bs':List Int} {ok ok':Bool} (h:Rep s bs ok) (e:ok=ok') (eb:ok=true→bs=bs'):Rep s bs' ok':=by
  subst e
  exact ⟨fun h1=>by rw [h.1 h1,eb h1],h.2⟩
theorem putF_bad (k n:Int) (bs:List Int):(putF k n bs true).2=true:=by
  unfold putF;split
  · rfl
  · split <;> rfl
theorem Rep.put1 {s:List Int × Bool} {bs:List Int} {ok:Bool} (h:Rep s bs ok) {k lo hi:Int} (hk:fieldOf k=some (1,lo,hi)) (n:Int):Rep (putS k n s) (bs ++ [n % 256]) (ok && inB n lo hi):=by
  unfold putS
  cases ok
  · refine ⟨(fun h1=>by simp at h1),fun _ => ?_⟩
    have e:=h.2 rfl
    rw [e];exact putF_bad _ _ _
  · rw [h.1 rfl]
    simp only [Bool.true_and,putF,hk,inB]
    by_cases hn:lo≤n∧n≤hi
    · rw [if_pos hn,decide_eq_true hn];exact ⟨fun _=>by simp,(fun h=>by cases h)⟩
    · rw [if_neg hn,decide_eq_false hn];exact ⟨(fun h=>by cases h),fun _=>rfl⟩
theorem Rep.put2 {s:List Int × Bool} {bs:List Int} {ok:Bool} (h:Rep s bs ok) {k hi:Int} (hk:fieldOf k=some (2,0,hi)) (hh:hi≤30000) (n:Int):Rep (putS k n s) (bs ++ twoB n) (ok && inB n 0 hi):=by
  unfold putS
  cases ok
  · refine ⟨(fun h1=>by simp at h1),fun _ => ?_⟩
    have e:=h.2 rfl
    rw [e];exact putF_bad _ _ _
  · rw [h.1 rfl]
    simp only [Bool.true_and,putF,hk,inB]
    by_cases hn:0≤n∧n≤hi
    · rw [if_pos hn,decide_eq_true hn]
      refine ⟨fun _ => ?_,(fun h=>by cases h)⟩
      have e1:Int.tdiv n 256=n / 256:=Int.tdiv_eq_ediv_of_nonneg hn.1
      have e2:Int.tmod n 256=n % 256:=Int.tmod_eq_emod_of_nonneg hn.1
      have e3:wrap64 (n / 256)=n / 256:=w64 (by omega) (by omega)
      simp [twoB,e1,e2,e3]
    · rw [if_neg hn,decide_eq_false hn];exact ⟨(fun h=>by cases h),fun _=>rfl⟩
theorem Rep.hops : ∀ (l:List S113) {s:List Int × Bool} {bs:List Int} {ok:Bool},Rep s bs ok→Rep (hopsW l s.1 s.2) (bs ++ l.flatMap hopEnc) (ok && l.all okHop)
  | [],s,bs,ok,h=>by simpa [hopsW] using h
  | x :: r,s,bs,ok,h=>by
    have h1:=((h.put1 (k:=2) rfl x.f0).put1 (k:=6) rfl x.f2).put2 (k:=5) rfl (by decide) x.f1
    have e:(((ok && inB x.f0 0 23) && inB x.f2 0 5) && inB x.f1 0 5999)=(ok && okHop x):=by
      unfold okHop inPl
      cases ok <;> cases inB x.f0 0 23 <;> cases inB x.f2 0 5 <;> cases inB x.f1 0 5999 <;> rfl
    have h2:=h1.to (bs':=bs ++ hopEnc x) e (fun _=>by simp [hopEnc])
    have h3:Rep (hopsW (x :: r) s.1 s.2) (bs ++ (x :: r).flatMap hopEnc) ((ok && okHop x) && r.all okHop):=by
      simp only [hopsW]
      change Rep (if (putS 5 x.f1 (putS 6 x.f2 (putS 2 x.f0 s))).2=true then (putS 5 x.f1 (putS 6 x.f2 (putS 2 x.f0 s))) else hopsW r (putS 5 x.f1 (putS 6 x.f2 (putS 2 x.f0 s))).1 (putS 5 x.f1 (putS 6 x.f2 (putS 2 x.f0 s))).2) _ _
      revert h2
      generalize putS 5 x.f1 (putS 6 x.f2 (putS 2 x.f0 s))=s'
      intro h2
      cases hok:(ok && okHop x)
      · rw [hok] at h2
        have e2:=h2.2 rfl
        rw [if_pos e2]
        exact ⟨(fun h=>by simp at h),fun _=>e2⟩
      · rw [hok] at h2
        have e2:=h2.1 rfl
        rw [if_neg (by rw [e2];simp)]
        have:=Rep.hops r h2
        refine this.to rfl (fun _=>by simp [List.flatMap_cons])
    refine h3.to (by simp [List.all_cons,Bool.and_assoc]) (fun _=>rfl)
theorem Rep.path {s:List Int × Bool} {bs:List Int} {ok:Bool} (h:Rep s bs ok) (l:List S113):Rep (pathS l s) (bs ++ pathEnc l) (ok && okPath l):=by
  have h1:=(h.put1 (k:=7) rfl (l.length:Int)).hops l
  refine h1.to ?_ (fun _=>by simp [pathEnc])
  have e:inB (l.length:Int) 0 200=decide (l.length≤200):=by unfold inB;exact decide_eq_decide.mpr (by omega)
  unfold okPath
  rw [e]
  cases ok <;> cases decide (l.length≤200) <;> cases l.all okHop <;> rfl
theorem frame1_rep (f:Fr) (hk:0≤f.kind∧f.kind≤255):Rep (frame1 f) (refB7 f (pathEnc f.path)) (inB f.dst 0 3 && inB f.kind 1 8 && inPl f.box f.node && inB f.port 0 255 && inB f.n 0 63 && okPath f.path && inB f.gn 0 1):=by
  have hw:wrap64 f.kind=f.kind:=w64 hk.1 (by omega)
  have h0:Rep ([],false) [] true:=⟨fun _=>rfl,(fun h=>by cases h)⟩
  have h:=((((((((h0.put1 (k:=0) rfl f.dst).put1 (k:=1) rfl (wrap64 f.kind)).put1 (k:=2) rfl f.box).put1 (k:=3) rfl f.port).put1 (k:=4) rfl f.n).put2 (k:=5) rfl (by decide) f.node).path f.path).put1 (k:=8) rfl f.gn)
  refine h.to ?_ (fun _ => ?_)
  · rw [hw];unfold inPl
    cases inB f.dst 0 3 <;> cases inB f.kind 1 8 <;> cases inB f.box 0 23 <;> cases inB f.port 0 255 <;> cases inB f.n 0 63 <;> cases inB f.node 0 5999 <;> cases okPath f.path <;> cases inB f.gn 0 1 <;> rfl
  · rw [hw]
    have:f.kind % 256=f.kind:=by omega
    simp [refB7,refB6,this]
theorem frame_rep (f:Fr) (hk:0≤f.kind∧f.kind≤255):Rep (frameW f) (refBb f (pathEnc f.path) (pathEnc f.gpath)) (ok1 f (okPath f.path) && ok2 f (okPath f.gpath)):=by
  have hw:wrap64 f.kind=f.kind:=w64 hk.1 (by omega)
  have h1:=frame1_rep f hk
  have h3 : ∀ {s:List Int × Bool} {bs:List Int} {ok:Bool},Rep s bs ok→Rep (frame3 f s) ((bs ++ [if f.lost then 1 else 0]) ++ twoB f.picks) (ok && inB f.picks 0 20000):=by
    intro s bs ok h
    have h:=(h.put1 (k:=8) rfl (if f.lost then 1 else 0)).put2 (k:=9) rfl (by decide) f.picks
    refine h.to ?_ (fun _ => ?_)
    · cases f.lost <;> cases ok <;> rfl
    · cases f.lost <;> rfl
  unfold frameW refBb
  by_cases hg0:f.gn=0
  · have h2:Rep (frame2 f (frame1 f)) (refB9 f (pathEnc f.path) (pathEnc f.gpath)) ((inB f.dst 0 3 && inB f.kind 1 8 && inPl f.box f.node && inB f.port 0 255 && inB f.n 0 63 && okPath f.path && inB f.gn 0 1) && isZeroF f):=by
      unfold frame2 refB9
      rw [if_pos hg0,if_neg (by omega)]
      revert h1
      generalize (inB f.dst 0 3 && inB f.kind 1 8 && inPl f.box f.node && inB f.port 0 255 && inB f.n 0 63 && okPath f.path && inB f.gn 0 1)=ok
      intro h1
      cases ok
      · refine ⟨(fun h=>by simp at h),fun _ => ?_⟩
        rw [h1.2 rfl];rfl
      · rw [h1.1 rfl]
        cases isZeroF f
        · exact ⟨(fun h=>by cases h),fun _=>rfl⟩
        · exact ⟨fun _=>rfl,(fun h=>by cases h)⟩
    refine (h3 h2).to ?_ (fun _=>rfl)
    unfold ok1 ok2 isZeroF
    rw [hw,hg0]
    have e1:inB (0:Int) 0 1=true:=rfl
    rw [e1]
    by_cases hb:f.gbox=0
    · by_cases hn:f.gnode=0
      · by_cases hl:f.gpath.length=0
        · have hl':f.gpath=[]:=List.eq_nil_of_length_eq_zero hl
          rw [hb,hn,hl']
          have e2:inPl 0 0=true:=rfl
          have e3:okPath []=true:=rfl
          rw [e2,e3]
          cases inB f.dst 0 3 <;> cases inB f.kind 1 8 <;> cases inPl f.box f.node <;> cases inB f.port 0 255 <;> cases inB f.n 0 63 <;> cases okPath f.path <;> cases inB f.picks 0 20000 <;> rfl
        · have e2:(f.gpath.length == 0)=false:=by simpa using hl
          have e3:decide (f.gpath.length=0)=false:=decide_eq_false hl
          rw [e2,e3];simp
      · have e2:(f.gnode == 0)=false:=by simpa using hn
        rw [e2];simp
    · have e2:(f.gbox == 0)=false:=by simpa using hb
      rw [e2];simp
  · by_cases hg1:f.gn=1
    · have h2:=((h1.put1 (k:=2) rfl f.gbox).put2 (k:=5) rfl (by decide) f.gnode).path f.gpath
      have e2:frame2 f (frame1 f)=pathS f.gpath (putS 5 f.gnode (putS 2 f.gbox (frame1 f))):=by unfold frame2;rw [if_neg hg0]
      have e3:refB9 f (pathEnc f.path) (pathEnc f.gpath)=refB7 f (pathEnc f.path) ++ [f.gbox % 256] ++ twoB f.gnode ++ pathEnc f.gpath:=by unfold refB9;rw [if_pos hg1]
      rw [e2,e3]
      refine (h3 h2).to ?_ (fun _=>rfl)
      unfold ok1 ok2 inPl
      rw [hw,hg1]
      have e1:inB (1:Int) 0 1=true:=rfl
      rw [e1]
      cases inB f.dst 0 3 <;> cases inB f.kind 1 8 <;> cases inB f.box 0 23 <;> cases inB f.node 0 5999 <;> cases inB f.port 0 255 <;> cases inB f.n 0 63 <;> cases okPath f.path <;> cases inB f.picks 0 20000 <;> cases inB f.gbox 0 23 <;> cases inB f.gnode 0 5999 <;> cases okPath f.gpath <;> rfl
    · have e1:inB f.gn 0 1=false:=by unfold inB;exact decide_eq_false (by omega)
      rw [e1,Bool.and_false] at h1
      have e2:ok2 f (okPath f.gpath)=false:=by
        unfold ok2
        have a:(f.gn == 1)=false:=by simpa using hg1
        have b:(f.gn == 0)=false:=by simpa using hg0
        rw [a,b];simp
      rw [e2,Bool.and_false]
      have h2:Rep (frame2 f (frame1 f)) [] false:=by
        unfold frame2
        rw [if_neg hg0]
        have h2:=((h1.put1 (k:=2) rfl f.gbox).put2 (k:=5) rfl (by decide) f.gnode).path f.gpath
        exact ⟨(fun h=>by cases h),fun _=>h2.2 (by simp)⟩
      exact ⟨(fun h=>by cases h),fun _=>(h3 h2).2 (by simp)⟩
theorem bytes_same (f:Fr) (hk:0≤f.kind∧f.kind≤255):siteB f=refB f (okPath f.path) (okPath f.gpath) (pathEnc f.path) (pathEnc f.gpath):=by
  have h:=frame_rep f hk
  unfold siteB refB
  revert h
  generalize (ok1 f (okPath f.path) && ok2 f (okPath f.gpath))=ok
  intro h
  cases ok
  · rw [if_pos (h.2 rfl)];rfl
  · rw [h.1 rfl];rfl
end Go.Proofs.YtmcfpcgpjppfkaaGreatDoor.PB
namespace Go.Proofs.YtmcfpcgpjppfkaaGreatDoor.PB
open Go.RowKit Go.Proofs.YtmcfpcgpjppfkaaGreatDoorW.PrintWords Go.Proofs.YtmcfpcgpjppfkaaGreatDoorW.PrintLast
set_option linter.unusedVariables false
set_option linter.unusedSimpArgs false
def Bt (xs:List Int):Prop:=∀ x ∈ xs,0≤x∧x≤255
def hd (xs:List Int):Int:=xs.headD 0
def two2 (xs:List Int):Int:=256*hd xs+hd xs.tail
theorem Bt.tail {xs:List Int} (h:Bt xs):Bt xs.tail:=fun x hx=>h x (List.mem_of_mem_tail hx)
theorem Bt.hd {xs:List Int} (h:Bt xs):0≤hd xs∧hd xs≤255:=by
  cases xs with
  | nil=>exact ⟨Int.le_refl _,by decide⟩
  | cons x r=>exact h x (by simp)
theorem getM1 {xs:List Int} (h:Bt xs):getM 1 xs=some (hd xs,xs.tail):=by
  unfold getM
  cases xs with
  | nil=>simp [site_reader_get.l0,hd,wrap64]
  | cons x r =>
    have:=h.hd
    have e:hd (x :: r)=x:=rfl
    rw [e] at this
    have e0:wrap64 x=x:=w64 this.1 (by omega)
    simp only [site_reader_get.l0,e0]
    have e1:wrap64 (0*256)=0:=by simp [wrap64]
    have e2:wrap64 (0+1)=1:=by simp [wrap64]
    rw [e1,e2,Int.zero_add,e0]
    simp [hd]
theorem getM2 {xs:List Int} (h:Bt xs):getM 2 xs=some (two2 xs,xs.tail.tail):=by
  have e1:wrap64 (0*256)=0:=by simp [wrap64]
  have e2:wrap64 (0+1)=1:=by simp [wrap64]
  have e3:wrap64 (1+1)=2:=by simp [wrap64]
  have e7:wrap64 1=1:=by simp [wrap64]
  have e8:wrap64 2=2:=by simp [wrap64]
  unfold getM
  match xs,h with
  | [],h=>simp [site_reader_get.l0,hd,two2,wrap64]
  | [x],h =>
    have:=h.hd
    have e:hd [x]=x:=rfl
    rw [e] at this
    have e0:wrap64 x=x:=w64 this.1 (by omega)
    have e4:wrap64 (x*256)=x*256:=w64 (by omega) (by omega)
    simp only [site_reader_get.l0,e0,e1,e2,e3,e4,Int.zero_add]
    simp [hd,two2,Int.mul_comm,e0,e4,e7,e3,e8]
  | x :: y :: r,h =>
    have:=h.hd
    have e:hd (x :: y :: r)=x:=rfl
    rw [e] at this
    have hy:=h.tail.hd
    have ey:hd (x :: y :: r).tail=y:=rfl
    rw [ey] at hy
    have e0:wrap64 x=x:=w64 this.1 (by omega)
    have e5:wrap64 y=y:=w64 hy.1 (by omega)
    have e4:wrap64 (x*256)=x*256:=w64 (by omega) (by omega)
    have e6:wrap64 (x*256+y)=x*256+y:=w64 (by omega) (by omega)
    simp only [site_reader_get.l0,e0,e1,e2,e3,e4,e5,e6,Int.zero_add]
    simp [hd,two2,Int.mul_comm,e0,e4,e5,e6,e7,e3,e8]
theorem one1 {xs:List Int} (h:Bt xs):riposteref24_reader_one.f xs []=some (hd xs,xs.tail):=by
  cases xs with
  | nil=>rfl
  | cons x r =>
    have:=h.hd
    have e:hd (x :: r)=x:=rfl
    rw [e] at this
    simp only [riposteref24_reader_one.f]
    rw [w64 this.1 (by omega)];rfl
theorem two1 {xs:List Int} (h:Bt xs):riposteref24_reader_two.f xs []=some (two2 xs,xs.tail.tail):=by
  unfold riposteref24_reader_two.f
  rw [one1 h]
  simp only [Option.bind_some]
  rw [one1 h.tail]
  simp only [Option.bind_some]
  have h1:=h.hd
  have h2:=h.tail.hd
  have e:wrap64 (256*hd xs)=256*hd xs:=w64 (by omega) (by omega)
  rw [e,w64 (by omega) (by omega)];rfl
def rdHops:Nat→List Int→List S113 × List Int
  | 0,xs=>([],xs)
  | n+1,xs=>(⟨hd xs,two2 xs.tail.tail,hd xs.tail⟩ :: (rdHops n xs.tail.tail.tail.tail).1,(rdHops n xs.tail.tail.tail.tail).2)
theorem rdHops_bt : ∀ (n:Nat) {xs:List Int},Bt xs→Bt (rdHops n xs).2
  | 0,xs,h=>h
  | n+1,xs,h=>rdHops_bt n h.tail.tail.tail.tail
theorem rdHops_len : ∀ (n:Nat) (xs:List Int),(rdHops n xs).1.length=n
  | 0,xs=>rfl
  | n+1,xs=>by simp [rdHops,rdHops_len n]
theorem sitePath_l0 : ∀ (k n:Nat) (m i:Int) (acc:List S113) (xs:List Int),Bt xs→m=i+n→0≤i→m≤255→n<k→acc.length≤i.toNat→site_reader_path.l0 k m i acc xs=some (acc ++ (rdHops n xs).1,(rdHops n xs).2)
  | 0,n,m,i,acc,xs,hb,h1,h2,h3,h4,h5=>by omega
  | k+1,0,m,i,acc,xs,hb,h1,h2,h3,h4,h5=>by
    unfold site_reader_path.l0
    rw [if_neg (by omega)];simp [rdHops]
  | k+1,n+1,m,i,acc,xs,hb,h1,h2,h3,h4,h5=>by
    unfold site_reader_path.l0
    rw [if_pos (by omega),getM1 hb]
    simp only [Option.bind_some]
    rw [getM1 hb.tail]
    simp only [Option.bind_some]
    rw [getM2 hb.tail.tail]
    simp only [Option.bind_some]
    rw [if_pos (by omega),w64 (by omega) (by omega),sitePath_l0 k n m (i+1) _ _ hb.tail.tail.tail.tail (by omega) (by omega) h3 (by omega) (by simp;omega)]
    simp [rdHops]
theorem refPath_l0 : ∀ (k n:Nat) (m i:Int) (acc:List S113) (xs:List Int),Bt xs→m=i+n→0≤i→m≤255→n<k→acc.length≤i.toNat→riposteref24_reader_path.l0 k [] acc m i xs=some (acc ++ (rdHops n xs).1,(rdHops n xs).2)
  | 0,n,m,i,acc,xs,hb,h1,h2,h3,h4,h5=>by omega
  | k+1,0,m,i,acc,xs,hb,h1,h2,h3,h4,h5=>by
    unfold riposteref24_reader_path.l0
    rw [if_neg (by omega)];simp [rdHops]
  | k+1,n+1,m,i,acc,xs,hb,h1,h2,h3,h4,h5=>by
    unfold riposteref24_reader_path.l0
    rw [if_pos (by omega),one1 hb]
    simp only [Option.bind_some]
    rw [one1 hb.tail]
    simp only [Option.bind_some]
    rw [two1 hb.tail.tail]
    simp only [Option.bind_some]
    rw [if_pos (by omega),w64 (by omega) (by omega),refPath_l0 k n m (i+1) _ _ hb.tail.tail.tail.tail (by omega) (by omega) h3 (by omega) (by simp;omega)]
    simp [rdHops]
def rdPath (xs:List Int):List S113 × List Int:=rdHops (hd xs).toNat xs.tail
theorem rdPath_bt {xs:List Int} (h:Bt xs):Bt (rdPath xs).2:=rdHops_bt _ h.tail
theorem rdPath_len {xs:List Int} (h:Bt xs):(rdPath xs).1.length≤255:=by
  have:=h.hd;unfold rdPath;rw [rdHops_len];omega
theorem sitePath {k:Nat} {xs:List Int} (h:Bt xs) (hk:1000<k):site_reader_path.f k xs=some ((rdPath xs).1,(rdPath xs).2):=by
  have:=h.hd
  unfold site_reader_path.f
  rw [getM1 h]
  simp only [Option.bind_some]
  rw [sitePath_l0 k (hd xs).toNat (hd xs) 0 [] xs.tail h.tail (by omega) (by omega) (by omega) (by omega) (by simp)]
  rfl
theorem refPath {k:Nat} {xs:List Int} (h:Bt xs) (hk:1000<k):riposteref24_reader_path.f k xs []=some ((rdPath xs).1,(rdPath xs).2):=by
  have:=h.hd
  unfold riposteref24_reader_path.f
  rw [one1 h]
  simp only [Option.bind_some]
  rw [refPath_l0 k (hd xs).toNat (hd xs) 0 [] xs.tail h.tail (by omega) (by omega) (by omega) (by omega) (by simp)]
  rfl
def at7 (xs:List Int):List Int:=(rdPath xs.tail.tail.tail.tail.tail.tail.tail).2
def mkFr (xs:List Int) (b:Bool):Fr :=
  let y:=at7 xs
  let z:=if b then (rdPath y.tail.tail.tail.tail).2 else y.tail
  { dst:=hd xs,kind:=hd xs.tail % 256,box:=hd xs.tail.tail,port:=hd xs.tail.tail.tail,n:=hd xs.tail.tail.tail.tail,node:=two2 xs.tail.tail.tail.tail.tail,
    path:=(rdPath xs.tail.tail.tail.tail.tail.tail.tail).1,gn:=hd y,gbox:=if b then hd y.tail else 0,gnode:=if b then two2 y.tail.tail else 0,gpath:=if b then (rdPath y.tail.tail.tail.tail).1 else [],
    lost:=(hd z == 1),picks:=two2 z.tail }
theorem at7_bt {xs:List Int} (h:Bt xs):Bt (at7 xs):=rdPath_bt h.tail.tail.tail.tail.tail.tail.tail
theorem site_reads {k:Nat} {xs:List Int} (h:Bt xs) (hk:1000<k):SiteRd k xs (mkFr xs (decide (¬ hd (at7 xs)=0))):=by
  have h1:=h.tail
  have h2:=h1.tail
  have h3:=h2.tail
  have h4:=h3.tail
  have h5:=h4.tail
  have h7:=h5.tail.tail
  have y:=at7_bt h
  by_cases hg:hd (at7 xs)=0
  · rw [decide_eq_false (by simpa using hg)]
    exact ⟨hd xs.tail,hd (at7 xs).tail,_,_,_,_,_,_,_,_,_,_,_,getM1 h,getM1 h1,rfl,getM1 h2,getM1 h3,getM1 h4,getM2 h5,sitePath h7 hk,getM1 y,.inl ⟨hg,rfl,rfl,rfl,rfl⟩,getM1 y.tail,rfl,getM2 y.tail.tail⟩
  · rw [decide_eq_true hg]
    have z:=rdPath_bt y.tail.tail.tail.tail
    exact ⟨hd xs.tail,hd (rdPath (at7 xs).tail.tail.tail.tail).2,_,_,_,_,_,_,_,_,_,_,_,getM1 h,getM1 h1,rfl,getM1 h2,getM1 h3,getM1 h4,getM2 h5,sitePath h7 hk,getM1 y,.inr ⟨hg,_,_,getM1 y.tail,getM2 y.tail.tail,sitePath y.tail.tail.tail.tail hk⟩,getM1 z,rfl,getM2 z.tail⟩
theorem ref_reads {k:Nat} {xs:List Int} (h:Bt xs) (hk:1000<k):RefRd k xs (mkFr xs (decide (hd (at7 xs)=1))):=by
  have h1:=h.tail
  have h2:=h1.tail
  have h3:=h2.tail
  have h4:=h3.tail
  have h5:=h4.tail
  have h7:=h5.tail.tail
  have y:=at7_bt h
  by_cases hg:hd (at7 xs)=1
  · rw [decide_eq_true hg]
    have z:=rdPath_bt y.tail.tail.tail.tail
    exact ⟨hd xs.tail,hd (rdPath (at7 xs).tail.tail.tail.tail).2,_,_,_,_,_,_,_,_,_,_,_,one1 h,one1 h1,rfl,one1 h2,one1 h3,one1 h4,two1 h5,refPath h7 hk,one1 y,.inr ⟨hg,_,_,one1 y.tail,two1 y.tail.tail,refPath y.tail.tail.tail.tail hk⟩,one1 z,rfl,two1 z.tail⟩
  · rw [decide_eq_false hg]
    exact ⟨hd xs.tail,hd (at7 xs).tail,_,_,_,_,_,_,_,_,_,_,_,one1 h,one1 h1,rfl,one1 h2,one1 h3,one1 h4,two1 h5,refPath h7 hk,one1 y,.inl ⟨hg,rfl,rfl,rfl,rfl⟩,one1 y.tail,rfl,two1 y.tail.tail⟩
end Go.Proofs.YtmcfpcgpjppfkaaGreatDoor.PB
namespace Go.Proofs.YtmcfpcgpjppfkaaGreatDoor.PB
open Go.RowKit Go.Proofs.YtmcfpcgpjppfkaaGreatDoorW.PrintWords Go.Proofs.YtmcfpcgpjppfkaaGreatDoorW.PrintLast
set_option linter.unusedVariables false
set_option linter.unusedSimpArgs false
def PureB (k:Nat) (f:Fr) (xs:List Int):Prop:=∃ sb:List Int × Int,siteB f=sb∧f.path.length≤1000∧f.gpath.length≤1000∧riposteref24_CopyFrame.f k f.dst f.box f.node f.port f.kind f.n f.path f.gbox f.gnode f.gpath f.gn f.lost f.picks=some (f.dst,f.box,f.node,f.port,f.kind,f.n,f.path,f.gbox,f.gnode,f.gpath,f.gn,f.lost,f.picks) ∧ ∃ (p6 p9:Bool) (y6 y9:List Int),riposteref24_isPath.f k f.path=some p6∧riposteref24_isPath.f k f.gpath=some p9∧riposteref24_pathBytes.f k f.path=some y6∧riposteref24_pathBytes.f k f.gpath=some y9∧y6.length≤100000∧y9.length≤100000∧refB f p6 p9 y6 y9=sb ∧
    ∃ g:Fr,g.path.length≤1000∧g.gpath.length≤1000∧SiteRd k xs g ∧ ∃ q1:Bool,((siteB g).2=0→slices_Equal_byte_byte.f k (siteB g).1 xs=some q1) ∧
    ∃ (h:Fr) (p6' p9':Bool) (y6' y9':List Int),RefRd k xs h∧riposteref24_isPath.f k h.path=some p6'∧riposteref24_isPath.f k h.gpath=some p9'∧riposteref24_pathBytes.f k h.path=some y6'∧riposteref24_pathBytes.f k h.gpath=some y9'∧y6'.length≤100000∧y9'.length≤100000 ∧
    ∃ rr:Fr × Int,rr=resOf g (decide ((siteB g).2=0) && q1)∧rr=resOf h (decide ((refB h p6' p9' y6' y9').2=0) && ((strOfNums (refB h p6' p9' y6' y9').1).toList == (strOfNums xs).toList)) ∧
    riposteref24_State.f k rr.1.dst rr.1.box rr.1.node rr.1.port rr.1.kind rr.1.n rr.1.path rr.1.gbox rr.1.gnode rr.1.gpath rr.1.gn rr.1.lost rr.1.picks []=some (rr.1.box,rr.1.node,rr.1.port,rr.1.kind,rr.1.n,rr.1.path,[],rr.1.gbox,rr.1.gnode,rr.1.gpath,rr.1.gn,rr.1.lost,rr.1.picks)∧riposteref17_SamePath.f k rr.1.path rr.1.path=some true∧riposteref17_SameCells.f k [] []=some true∧riposteref17_SameCells.f k [goalOf rr.1] [goalOf rr.1]=some true
theorem equal_l0 : ∀ (k:Nat) (x y:List Int) (i:Nat),x.length=y.length→i≤x.length→x.length≤100000→x.length<k+i→slices_Equal_byte_byte.l0 k x y (x.length:Int) (i:Int)=some (decide (x.drop i=y.drop i))
  | 0,x,y,i,h0,h1,h2,h3=>by omega
  | k + 1,x,y,i,h0,h1,h2,h3=>by
    unfold slices_Equal_byte_byte.l0
    by_cases hi:i<x.length
    · rw [if_pos (by omega),if_pos (by omega),if_pos (by omega),if_pos (by omega)]
      have ex:x.drop i=rd x (i:Int) :: x.drop (i+1):=by rw [List.drop_eq_getElem_cons hi];congr 1;simp [rd,List.getD_eq_getElem?_getD,hi]
      have ey:y.drop i=rd y (i:Int) :: y.drop (i+1):=by rw [List.drop_eq_getElem_cons (by omega)];congr 1;simp [rd,List.getD_eq_getElem?_getD,show i<y.length by omega]
      rw [ex,ey]
      by_cases he:rd x (i:Int)=rd y (i:Int)
      · rw [if_pos he,w64 (by omega) (by omega),show ((i:Int)+1)=((i+1:Nat):Int) by omega,equal_l0 k x y (i+1) h0 (by omega) h2 (by omega)]
        congr 1
        exact decide_eq_decide.mpr (by simp [he])
      · rw [if_neg he]
        congr 1
        exact (decide_eq_false (by simp [he])).symm
    · rw [if_neg (by omega),List.drop_eq_nil_of_le (by omega),List.drop_eq_nil_of_le (by omega)]
      simp
theorem equal_some (k:Nat) (x y:List Int) (hy:y.length≤2000) (hk:2000<k):slices_Equal_byte_byte.f k x y=some (decide (x=y)):=by
  unfold slices_Equal_byte_byte.f
  by_cases h:(x.length:Int)=(y.length:Int)
  · rw [if_pos h]
    have:=equal_l0 k x y 0 (by omega) (by omega) (by omega) (by omega)
    simpa using this
  · rw [if_neg h]
    congr 1
    exact (decide_eq_false (fun e=>h (by rw [e]))).symm
theorem toByte_inj {a b:Int} (ha:0≤a∧a≤255) (hb:0≤b∧b≤255) (h:UInt8.ofNat a.toNat=UInt8.ofNat b.toNat):a=b:=by
  have:=congrArg UInt8.toNat h
  simp only [UInt8.toNat_ofNat'] at this
  omega
theorem text_inj : ∀ (x y:List Int),Bt x→Bt y→((x.map fun n=>UInt8.ofNat n.toNat)=(y.map fun n=>UInt8.ofNat n.toNat) ↔ x=y)
  | [],[],_,_=>by simp
  | [],_ :: _,_,_=>by simp
  | _ :: _,[],_,_=>by simp
  | a :: r,b :: s,hx,hy=>by
    simp only [List.map_cons,List.cons.injEq]
    rw [text_inj r s (fun x h=>hx x (by simp [h])) (fun x h=>hy x (by simp [h]))]
    constructor
    · rintro ⟨h1,h2⟩;exact ⟨toByte_inj (hx a (by simp)) (hy b (by simp)) h1,h2⟩
    · rintro ⟨h1,h2⟩;exact ⟨by rw [h1],h2⟩
theorem text_eq (x y:List Int) (hx:Bt x) (hy:Bt y):((strOfNums x).toList == (strOfNums y).toList)=decide (x=y):=by
  rw [Lib.strOfNums_toList,Lib.strOfNums_toList]
  by_cases h:x=y
  · rw [h];simp
  · have:=mt (text_inj x y hx hy).1 h
    rw [decide_eq_false h]
    exact beq_eq_false_iff_ne.mpr this
theorem Bt.nil:Bt []:=fun _ h=>by simp at h
theorem Bt.cons {a:Int} {r:List Int} (h:0≤a∧a≤255) (k:Bt r):Bt (a :: r):=fun x hx=>by
  rcases List.mem_cons.1 hx with rfl | h2
  · exact h
  · exact k x h2
theorem Bt.app {x y:List Int} (h:Bt x) (k:Bt y):Bt (x ++ y):=fun a ha=>by
  rcases List.mem_append.1 ha with h1 | h1
  · exact h a h1
  · exact k a h1
theorem m256 (n:Int):0≤n % 256∧n % 256≤255:=by omega
theorem twoB_bt (n:Int):Bt (twoB n):=(Bt.nil.cons (m256 _)).cons (m256 _)
theorem hops_bt : ∀ l:List S113,Bt (l.flatMap hopEnc)
  | []=>Bt.nil
  | h :: r=>by rw [List.flatMap_cons];exact Bt.app (Bt.app ((Bt.nil.cons (m256 _)).cons (m256 _)) (twoB_bt _)) (hops_bt r)
theorem pathEnc_bt (l:List S113):Bt (pathEnc l):=Bt.app (Bt.nil.cons (m256 _)) (hops_bt l)
theorem refB_bt (f:Fr) (hk:0≤f.kind∧f.kind≤255) (p6 p9:Bool):Bt (refB f p6 p9 (pathEnc f.path) (pathEnc f.gpath)).1:=by
  unfold refB
  split
  · have h7:Bt (refB7 f (pathEnc f.path)):=Bt.app (Bt.app (Bt.app (((((Bt.nil.cons (m256 _)).cons (m256 _)).cons (m256 _)).cons hk).cons (m256 _)) (twoB_bt _)) (pathEnc_bt _)) (Bt.nil.cons (m256 _))
    have h9:Bt (refB9 f (pathEnc f.path) (pathEnc f.gpath)):=by
      unfold refB9
      split
      · exact Bt.app (Bt.app (Bt.app h7 (Bt.nil.cons (m256 _))) (twoB_bt _)) (pathEnc_bt _)
      · exact h7
    exact Bt.app (Bt.app h9 (Bt.nil.cons (by cases f.lost <;> decide))) (twoB_bt _)
  · exact Bt.nil
theorem l1_self (k:Nat) (x0 x1:List S113) (i:Int) (a b c:Int):riposteref17_Compare.l1 (k+4) x0 x1 i [a,b,c] [a,b,c] 0=riposteref17_Compare.l0 k x0 x1 (wrap64 (i+1)):=by
  simp [riposteref17_Compare.l1,wrap64]
theorem compare_self : ∀ (d k:Nat) (l:List S113) (i:Nat),i+d=l.length→l.length≤100000→6*d+2≤k→riposteref17_Compare.l0 k l l (i:Int)=some 0
  | 0,k,l,i,h1,h2,h3=>by
    obtain ⟨k',rfl⟩ : ∃ k',k=k'+2:=⟨k - 2,by omega⟩
    rw [riposteref17_Compare.l0,if_neg (by omega),riposteref17_Compare.j1,if_neg (by decide)]
    simp [wrap64]
  | d+1,k,l,i,h1,h2,h3=>by
    obtain ⟨k',rfl⟩ : ∃ k',k=k'+6:=⟨k - 6,by omega⟩
    rw [riposteref17_Compare.l0,if_pos (by omega),riposteref17_Compare.j1,if_pos (by simp;omega),if_pos (by omega),if_pos (by omega),if_pos (by omega),l1_self,w64 (by omega) (by omega),show ((i:Int)+1)=((i+1:Nat):Int) by omega]
    exact compare_self d k' l (i+1) (by omega) h2 (by omega)
theorem samePath_self (k:Nat) (l:List S113) (hl:l.length≤400) (hk:3000<k):riposteref17_SamePath.f k l l=some true:=by
  unfold riposteref17_SamePath.f riposteref17_Compare.f
  have:=compare_self l.length k l 0 (by omega) (by omega) (by omega)
  rw [show riposteref17_Compare.l0 k l l 0=some 0 from this]
  rfl
theorem sameCells_nil (k:Nat):riposteref17_SameCells.f (k+1) [] []=some true:=by
  simp [riposteref17_SameCells.f,riposteref17_SameCells.l0]
theorem sameCells_self (k:Nat) (c:S28) (hl:c.f1.length≤400) (hk:3000<k):riposteref17_SameCells.f (k+2) [c] [c]=some true:=by
  have h0:rd_T28 [c] 0=c:=rfl
  simp [riposteref17_SameCells.f,riposteref17_SameCells.l0,h0,samePath_self (k+1) c.f1 hl (by omega),wrap64]
theorem goal_none (f:Fr) (p9:Bool) (h0:¬ f.gn=0) (h1:¬ f.gn=1) (p6:Bool) (y6 y9:List Int):refB f p6 p9 y6 y9=([],4):=by
  unfold refB ok2
  have a:(f.gn == 1)=false:=by simpa using h1
  have b:(f.gn == 0)=false:=by simpa using h0
  rw [a,b];simp
theorem mkFr_gn (xs:List Int) (b:Bool):(mkFr xs b).gn=hd (at7 xs):=rfl
theorem mkFr_kind (xs:List Int) (b:Bool):0≤(mkFr xs b).kind∧(mkFr xs b).kind≤255:=m256 _
theorem mkFr_len {xs:List Int} (h:Bt xs) (b:Bool):(mkFr xs b).path.length≤255∧(mkFr xs b).gpath.length≤255:=by
  refine ⟨rdPath_len h.tail.tail.tail.tail.tail.tail.tail,?_⟩
  cases b
  · exact Nat.zero_le _
  · exact rdPath_len (at7_bt h).tail.tail.tail.tail
theorem resOf_len (f:Fr) (b:Bool) (h6:f.path.length≤255) (h9:f.gpath.length≤255):(resOf f b).1.path.length≤255∧(resOf f b).1.gpath.length≤255:=by
  cases b
  · exact ⟨Nat.zero_le _,Nat.zero_le _⟩
  · exact ⟨h6,h9⟩
theorem res_same {xs:List Int} (hb:Bt xs):resOf (mkFr xs (decide (¬ hd (at7 xs)=0))) (decide ((siteB (mkFr xs (decide (¬ hd (at7 xs)=0)))).2=0) && decide ((siteB (mkFr xs (decide (¬ hd (at7 xs)=0)))).1=xs)) =
    resOf (mkFr xs (decide (hd (at7 xs)=1))) (decide ((refB (mkFr xs (decide (hd (at7 xs)=1))) (okPath (mkFr xs (decide (hd (at7 xs)=1))).path) (okPath (mkFr xs (decide (hd (at7 xs)=1))).gpath) (pathEnc (mkFr xs (decide (hd (at7 xs)=1))).path) (pathEnc (mkFr xs (decide (hd (at7 xs)=1))).gpath)).2=0) && ((strOfNums (refB (mkFr xs (decide (hd (at7 xs)=1))) (okPath (mkFr xs (decide (hd (at7 xs)=1))).path) (okPath (mkFr xs (decide (hd (at7 xs)=1))).gpath) (pathEnc (mkFr xs (decide (hd (at7 xs)=1))).path) (pathEnc (mkFr xs (decide (hd (at7 xs)=1))).gpath)).1).toList == (strOfNums xs).toList)):=by
  rw [text_eq _ _ (refB_bt _ (mkFr_kind _ _) _ _) hb,bytes_same _ (mkFr_kind xs _)]
  by_cases h0:hd (at7 xs)=0
  · have e:decide (¬ hd (at7 xs)=0)=decide (hd (at7 xs)=1):=decide_eq_decide.mpr (by omega)
    rw [e]
  · by_cases h1:hd (at7 xs)=1
    · have e:decide (¬ hd (at7 xs)=0)=decide (hd (at7 xs)=1):=decide_eq_decide.mpr (by omega)
      rw [e]
    · rw [goal_none _ _ (by rw [mkFr_gn];exact h0) (by rw [mkFr_gn];exact h1),goal_none _ _ (by rw [mkFr_gn];exact h0) (by rw [mkFr_gn];exact h1)]
      rfl
theorem pure_law (f:Fr) (xs:List Int) (hk:0≤f.kind∧f.kind≤255) (hb:Bt xs) (h6:f.path.length≤300) (h9:f.gpath.length≤300) (hx:xs.length≤2000):PureB 5000 f xs:=by
  have lg:=mkFr_len hb (decide (¬ hd (at7 xs)=0))
  have lh:=mkFr_len hb (decide (hd (at7 xs)=1))
  refine ⟨siteB f,rfl,by omega,by omega,copy_same 4999 f (by omega) (by omega),okPath f.path,okPath f.gpath,pathEnc f.path,pathEnc f.gpath,isPath_some _ _ (by omega) (by omega),isPath_some _ _ (by omega) (by omega),pathBytes_some _ _ (by omega) (by omega),pathBytes_some _ _ (by omega) (by omega),by rw [pathEnc_len];omega,by rw [pathEnc_len];omega,(bytes_same f hk).symm,
    mkFr xs (decide (¬ hd (at7 xs)=0)),by omega,by omega,site_reads hb (by omega),decide ((siteB (mkFr xs (decide (¬ hd (at7 xs)=0)))).1=xs),fun _=>equal_some _ _ _ hx (by omega),
    mkFr xs (decide (hd (at7 xs)=1)),okPath _,okPath _,pathEnc _,pathEnc _,ref_reads hb (by omega),isPath_some _ _ (by omega) (by omega),isPath_some _ _ (by omega) (by omega),pathBytes_some _ _ (by omega) (by omega),pathBytes_some _ _ (by omega) (by omega),by rw [pathEnc_len];omega,by rw [pathEnc_len];omega,
    _,rfl,res_same hb,?_⟩
  have lr:=resOf_len _ (decide ((siteB (mkFr xs (decide (¬ hd (at7 xs)=0)))).2=0) && decide ((siteB (mkFr xs (decide (¬ hd (at7 xs)=0)))).1=xs)) lg.1 lg.2
  exact ⟨state_nil 4999 _ (by omega) (by omega),samePath_self _ _ (by omega) (by omega),sameCells_nil 4999,sameCells_self 4998 _ (by show (resOf _ _).1.gpath.length≤400;omega) (by omega)⟩
end Go.Proofs.YtmcfpcgpjppfkaaGreatDoor.PB
