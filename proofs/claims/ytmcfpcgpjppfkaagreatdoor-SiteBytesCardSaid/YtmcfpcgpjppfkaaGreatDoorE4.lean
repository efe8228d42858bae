/- The evaluator of closed runs, part 4 of 4: an interpreter of the model's code over values with abstract blocks, and the proof that what it answers is what the machine does. Conditions: those that its theorems state. -/
import Derived.Test.YtmcfpcgpjppfkaaGreatDoorE3
import Derived.Laws.StandIn
namespace Go.Ev
structure DI where
  i:Nat
  o:Oper
  before:Nat
  reads:List Tmp
  major:Bool
inductive DS where
  | minor (x:DI)
  | major (x:DI) (fl:List DI)
noncomputable def bitsAt (acc:PT Nat) (i:Nat):Nat:=match acc.get i with | some b=>b | none=>0
noncomputable def rowB (acc:PT Nat):List Edge→Nat→Nat
  | [],s=>s
  | e :: r,s=>match Region.binds .any e with
    | true=>rowB acc r (Nat.lor (Nat.lor s (Nat.pow 2 e.on)) (bitsAt acc e.on))
    | false=>rowB acc r s
noncomputable def mkDIs:Nat→PT Nat→List Oper→List DI
  | _,_,[]=>[]
  | i,acc,o :: r=>⟨i,o,rowB acc o.after.toList 0,tmpsOf o.op.operands.toList,isMajorOp o.op⟩ :: mkDIs (Nat.succ i) (acc.put i (some (rowB acc o.after.toList 0))) r
def readsDst (y x:DI):Bool :=
  match x.o.dst with
  | some d=>memNat d y.reads
  | none=>false
def sameDst (x y:DI):Bool :=
  match x.o.dst,y.o.dst with
  | some d,some e=>Nat.beq d e
  | _,_=>false
def anti (x:DI):List DI→Bool
  | []=>false
  | y :: r=>match readsDst y x with
    | true=>match bit y.before x.i with
      | true=>anti x r
      | false=>true
    | false=>anti x r
def flagged (all:List DI):List DI→List DI
  | []=>[]
  | x :: r=>match x.major with
    | true=>x :: flagged all r
    | false => { x with major:=anti x all } :: flagged all r
def keep (p:DI→Bool):List DI→List DI
  | []=>[]
  | x :: r=>match p x with
    | true=>x :: keep p r
    | false=>keep p r
theorem mem_keep {p:DI→Bool} {x:DI} : ∀ {l:List DI},x ∈ keep p l ↔ x ∈ l∧p x=true
  | []=>by simp [keep]
  | y :: r=>by
    have ih:=mem_keep (p:=p) (x:=x) (l:=r)
    simp only [keep]
    split
    · rename_i h
      rw [List.mem_cons,List.mem_cons,ih]
      constructor
      · rintro (rfl | ⟨a,b⟩)
        · exact ⟨.inl rfl,h⟩
        · exact ⟨.inr a,b⟩
      · rintro ⟨rfl | a,b⟩
        · exact .inl rfl
        · exact .inr ⟨a,b⟩
    · rename_i h
      rw [List.mem_cons,ih]
      constructor
      · rintro ⟨a,b⟩;exact ⟨.inr a,b⟩
      · rintro ⟨rfl | a,b⟩
        · rw [h] at b;cases b
        · exact ⟨a,b⟩
def orderBy (minors:List DI):List DI→List DI
  | []=>minors
  | m :: r=>keep (fun x=>match bit x.before m.i with | true=>false | false=>true) minors ++ m :: orderBy (keep (fun x=>bit x.before m.i) minors) r
def orderOf (l:List DI):List DI:=orderBy (keep (fun x=>match x.major with | true=>false | false=>true) l) (keep (fun x=>x.major) l)
def floats (m:DI):List DI→List DI
  | []=>[]
  | z :: r=>match bit m.before z.i with
    | true=>floats m r
    | false=>z :: floats m r
def mkPlan:List DI→List DI→List DS
  | [],_=>[]
  | x :: r,fl=>match x.major with
    | true=>.major x (floats x fl) :: mkPlan r (floats x fl)
    | false=>.minor x :: mkPlan r (x :: fl)
def pairOk (x y:DI):Bool :=
  !bit x.before y.i && (!Nat.beq x.i y.i && (!sameDst x y && ((!x.major || bit y.before x.i) && ((!readsDst y x || bit y.before x.i) && (!readsDst x y || (y.major && bit y.before x.i))))))
def guardOk (x:DI):Bool :=
  match x.o.guard with
  | none=>true
  | some (g,_)=>bit x.before g
def selfOk (x:DI):Bool:=!bit x.before x.i && ((x.major || !readsDst x x) && guardOk x)
def withAll (x:DI):List DI→Bool
  | []=>true
  | y :: r=>match pairOk x y with
    | true=>withAll x r
    | false=>false
def allOk:List DI→Bool
  | []=>true
  | x :: r=>match selfOk x with
    | true=>match withAll x r with
      | true=>allOk r
      | false=>false
    | false=>false
def memIdx (i:Nat):List DI→Bool
  | []=>false
  | x :: r=>match Nat.beq x.i i with
    | true=>true
    | false=>memIdx i r
def covers (l:List DI):Nat→List Oper→Bool
  | _,[]=>true
  | n,_ :: r=>match memIdx n l with
    | true=>covers l (Nat.succ n) r
    | false=>false
def boundOk (n:Nat):List DI→Bool
  | []=>true
  | x :: r=>match Nat.blt x.before n with
    | true=>boundOk n r
    | false=>false
def lenOps:List Oper→Nat
  | []=>0
  | _ :: r=>Nat.succ (lenOps r)
noncomputable def disOf (ops:List Oper):List DI:=flagged (mkDIs 0 .leaf ops) (mkDIs 0 .leaf ops)
theorem bitsAt_put (acc:PT Nat) (i j b:Nat):bitsAt (acc.put i (some b)) j=if j=i then b else bitsAt acc j:=by
  unfold bitsAt
  rw [PT.get_put]
  by_cases h:j=i
  · simp [h]
  · simp [h]
theorem rowB_or (acc:PT Nat) (j:Nat) : ∀ (es:List Edge) (s:Nat),(rowB acc es s).testBit j=true ↔ s.testBit j=true ∨ ∃ e ∈ es,Region.binds .any e=true∧(j=e.on∨(bitsAt acc e.on).testBit j=true)
  | [],s=>by simp [rowB]
  | e :: r,s=>by
    simp only [rowB]
    cases hb:Region.binds .any e
    · simp only [rowB_or acc j r]
      simp [hb]
    · simp only [rowB_or acc j r]
      have h1:(Nat.lor (Nat.lor s (Nat.pow 2 e.on)) (bitsAt acc e.on)).testBit j=(s.testBit j || decide (e.on=j) || (bitsAt acc e.on).testBit j):=by
        show ((s ||| 2 ^ e.on) ||| bitsAt acc e.on).testBit j=_
        rw [Nat.testBit_or,Nat.testBit_or,Nat.testBit_two_pow]
      rw [h1]
      simp only [Bool.or_eq_true,decide_eq_true_eq,List.mem_cons,exists_eq_or_imp,hb,true_and]
      constructor
      · rintro (((h | h) | h) | h)
        · exact .inl h
        · exact .inr (.inl (.inl h.symm))
        · exact .inr (.inl (.inr h))
        · exact .inr (.inr h)
      · rintro (h | (h | h) | h)
        · exact .inl (.inl (.inl h))
        · exact .inl (.inl (.inr h.symm))
        · exact .inl (.inr h)
        · exact .inr h
structure DIok (ops:List Oper) (x:DI):Prop where
  op:ops[x.i]?=some x.o
  reads:x.reads=tmpsOf x.o.op.operands.toList
  edges : ∀ e ∈ x.o.after,Region.binds .any e=true→x.before.testBit e.on=true
  closed : ∀ listed,Closed ops.toArray listed→listed.getD x.i false=true → ∀ j,x.before.testBit j=true→listed.getD j false=true
theorem mkDIs_ok (ops:List Oper) : ∀ (l:List Oper) (i:Nat) (acc:PT Nat),ops.drop i=l →
    (∀ k listed,Closed ops.toArray listed→listed.getD k false=true → ∀ j,(bitsAt acc k).testBit j=true→listed.getD j false=true) →
    ∀ x ∈ mkDIs i acc l,DIok ops x
  | [],_,_,_,_,x,hx=>by simp [mkDIs] at hx
  | o :: r,i,acc,hl,hacc,x,hx=>by
    have hi:ops[i]?=some o:=by
      have:=congrArg (fun l=>l[0]?) hl
      simpa [List.getElem?_drop] using this
    have hr:ops.drop (i+1)=r:=by
      have:=congrArg (List.drop 1) hl
      simpa [List.drop_drop] using this
    have hrow : ∀ listed,Closed ops.toArray listed→listed.getD i false=true → ∀ j,(rowB acc o.after.toList 0).testBit j=true→listed.getD j false=true:=by
      intro listed hc hli j hj
      rcases (rowB_or acc j o.after.toList 0).1 hj with h | ⟨e,he,hb,h⟩
      · simp at h
      · have hon:=hc i o (by simpa using hi) hli e (by simpa using he) hb
        rcases h with rfl | h
        · exact hon
        · exact hacc e.on listed hc hon j h
    simp only [mkDIs,List.mem_cons] at hx
    rcases hx with rfl | hx
    · exact ⟨hi,rfl,fun e he hb=>(rowB_or acc e.on o.after.toList 0).2 (.inr ⟨e,by simpa using he,hb,.inl rfl⟩),hrow⟩
    · refine mkDIs_ok ops r (i+1) _ hr ?_ x hx
      intro k listed hc hk j hj
      rw [bitsAt_put] at hj
      split at hj
      · rename_i e;subst e;exact hrow listed hc hk j hj
      · exact hacc k listed hc hk j hj
theorem flagged_ok {ops:List Oper} {all:List DI} : ∀ {l:List DI},(∀ x ∈ l,DIok ops x) → ∀ x ∈ flagged all l,DIok ops x
  | [],_,x,hx=>by simp [flagged] at hx
  | y :: r,h,x,hx=>by
    have hy:=h y (by simp)
    simp only [flagged] at hx
    split at hx
    · rcases List.mem_cons.1 hx with rfl | hx
      · exact hy
      · exact flagged_ok (fun z hz=>h z (by simp [hz])) x hx
    · rcases List.mem_cons.1 hx with rfl | hx
      · exact ⟨hy.op,hy.reads,hy.edges,hy.closed⟩
      · exact flagged_ok (fun z hz=>h z (by simp [hz])) x hx
theorem mem_orderBy {x:DI} : ∀ {ms minors:List DI},x ∈ orderBy minors ms→x ∈ minors∨x ∈ ms
  | [],_,h=>.inl h
  | m :: r,minors,h=>by
    simp only [orderBy,List.mem_append,List.mem_cons,mem_keep] at h
    rcases h with h | rfl | h
    · exact .inl h.1
    · exact .inr (by simp)
    · rcases mem_orderBy h with h | h
      · exact .inl (mem_keep.1 h).1
      · exact .inr (by simp [h])
theorem orderOf_ok {ops:List Oper} {x:DI} (hx:x ∈ orderOf (disOf ops)):DIok ops x:=by
  have hx':x ∈ disOf ops:=by
    rcases mem_orderBy hx with h | h <;> exact (mem_keep.1 h).1
  refine flagged_ok (fun y hy=>mkDIs_ok ops ops 0 .leaf rfl ?_ y hy) x hx'
  intro k listed _ _ j hj
  simp [bitsAt,PT.get_leaf] at hj
theorem floats_mem {m z:DI} : ∀ {l:List DI},z ∈ l→bit m.before z.i=false→z ∈ floats m l
  | y :: r,h,hb=>by
    simp only [floats]
    rcases List.mem_cons.1 h with rfl | h
    · rw [hb];simp
    · split
      · exact floats_mem h hb
      · exact List.mem_cons_of_mem _ (floats_mem h hb)
structure PairOk (x y:DI):Prop where
  back:x.before.testBit y.i=false
  ne:x.i≠y.i
  dst : ∀ d,x.o.dst=some d→y.o.dst=some d→False
  chain:x.major=true→y.before.testBit x.i=true
  flow : ∀ d,x.o.dst=some d→d ∈ y.reads→y.before.testBit x.i=true
  anti : ∀ d,y.o.dst=some d→d ∈ x.reads→y.major=true∧y.before.testBit x.i=true
theorem readsDst_iff {x y:DI} : readsDst y x=true ↔ ∃ d,x.o.dst=some d∧d ∈ y.reads:=by
  unfold readsDst
  split
  · rename_i d hd
    rw [hd,memNat_iff]
    simp
  · rename_i hd
    rw [hd]
    simp
theorem pairOk_iff {x y:DI} (h:pairOk x y=true):PairOk x y:=by
  simp only [pairOk,Bool.and_eq_true,Bool.or_eq_true,Bool.not_eq_true',bit_eq] at h
  obtain ⟨h1,h2,h3,h4,h5,h6⟩:=h
  refine ⟨h1,fun e=>by rw [e] at h2;simp at h2,fun d hx hy => ?_,fun hm => ?_,fun d hx hy => ?_,fun d hy hx => ?_⟩
  · simp only [sameDst,hx,hy] at h3;simp at h3
  · rcases h4 with h4 | h4
    · rw [hm] at h4;cases h4
    · exact h4
  · have:readsDst y x=true:=readsDst_iff.2 ⟨d,hx,hy⟩
    rcases h5 with h5 | h5
    · rw [this] at h5;cases h5
    · exact h5
  · have:readsDst x y=true:=readsDst_iff.2 ⟨d,hy,hx⟩
    rcases h6 with h6 | h6
    · rw [this] at h6;cases h6
    · exact h6
structure SelfOk (x:DI):Prop where
  back:x.before.testBit x.i=false
  own:x.major=false → ∀ d,x.o.dst=some d→¬ d ∈ x.reads
  guard : ∀ g q,x.o.guard=some (g,q)→x.before.testBit g=true
theorem selfOk_iff {x:DI} (h:selfOk x=true):SelfOk x:=by
  simp only [selfOk,Bool.and_eq_true,Bool.or_eq_true,Bool.not_eq_true',bit_eq] at h
  obtain ⟨h1,h2,h3⟩:=h
  refine ⟨h1,fun hm d hd hr => ?_,fun g q hg => ?_⟩
  · have:readsDst x x=true:=readsDst_iff.2 ⟨d,hd,hr⟩
    rcases h2 with h2 | h2
    · rw [hm] at h2;cases h2
    · rw [this] at h2;cases h2
  · simp only [guardOk,hg,bit_eq] at h3
    exact h3
theorem withAll_iff {x y:DI} : ∀ {l:List DI},withAll x l=true→y ∈ l→PairOk x y
  | z :: r,h,hy=>by
    simp only [withAll] at h
    split at h
    · rename_i hp
      rcases List.mem_cons.1 hy with rfl | hy
      · exact pairOk_iff hp
      · exact withAll_iff h hy
    · cases h
theorem allOk_self {x:DI} : ∀ {l:List DI},allOk l=true→x ∈ l→SelfOk x
  | z :: r,h,hx=>by
    simp only [allOk] at h
    split at h
    · rename_i hs
      split at h
      · rcases List.mem_cons.1 hx with rfl | hx
        · exact selfOk_iff hs
        · exact allOk_self h hx
      · cases h
    · cases h
theorem allOk_pair {x y:DI} : ∀ {l l1 l2:List DI},allOk l=true→l=l1 ++ l2→x ∈ l1→y ∈ l2→PairOk x y
  | [],l1,l2,_,he,hx,_=>by
    have:=congrArg List.length he
    cases l1 <;> simp at this hx
  | z :: r,[],l2,_,_,hx,_=>by simp at hx
  | z :: r,a :: l1,l2,h,he,hx,hy=>by
    simp only [List.cons_append,List.cons.injEq] at he
    obtain ⟨rfl,rfl⟩:=he
    simp only [allOk] at h
    split at h
    · split at h
      · rename_i hw
        rcases List.mem_cons.1 hx with rfl | hx
        · exact withAll_iff hw (by simp [hy])
        · exact allOk_pair h rfl hx hy
      · cases h
    · cases h
theorem allOk_two {x y:DI} {l:List DI} (h:allOk l=true) (hx:x ∈ l) (hy:y ∈ l):x=y∨PairOk x y∨PairOk y x:=by
  induction l with
  | nil=>simp at hx
  | cons z r ih =>
    rcases List.mem_cons.1 hx with rfl | hx'
    · rcases List.mem_cons.1 hy with rfl | hy'
      · exact .inl rfl
      · exact .inr (.inl (allOk_pair h (l1:=[x]) rfl (by simp) hy'))
    · rcases List.mem_cons.1 hy with rfl | hy'
      · exact .inr (.inr (allOk_pair h (l1:=[y]) rfl (by simp) hx'))
      · refine ih ?_ hx' hy'
        simp only [allOk] at h
        split at h
        · split at h
          · exact h
          · cases h
        · cases h
theorem memIdx_iff {i:Nat} : ∀ {l:List DI},memIdx i l=true → ∃ x ∈ l,x.i=i
  | y :: r,h=>by
    simp only [memIdx] at h
    split at h
    · rename_i e
      exact ⟨y,by simp,Nat.eq_of_beq_eq_true e⟩
    · obtain ⟨x,hx,h⟩:=memIdx_iff h
      exact ⟨x,by simp [hx],h⟩
theorem covers_iff {l:List DI} : ∀ {ops:List Oper} {n i:Nat},covers l n ops=true→n≤i→i<n+ops.length → ∃ x ∈ l,x.i=i
  | [],n,i,_,h1,h2=>by simp at h2;omega
  | o :: r,n,i,h,h1,h2=>by
    simp only [covers] at h
    split at h
    · rename_i hm
      by_cases he:i=n
      · subst he;exact memIdx_iff hm
      · exact covers_iff h (by show n+1≤i;omega) (by simp only [List.length_cons] at h2;show i<n+1+r.length;omega)
    · cases h
theorem lenOps_eq : ∀ (l:List Oper),lenOps l=l.length
  | []=>rfl
  | _ :: r=>by simp [lenOps,lenOps_eq r]
theorem boundOk_iff {n:Nat} {x:DI} : ∀ {l:List DI},boundOk n l=true→x ∈ l→x.before<n
  | y :: r,h,hx=>by
    simp only [boundOk] at h
    split at h
    · rename_i hb
      rcases List.mem_cons.1 hx with rfl | hx
      · simpa [Nat.blt_eq] using hb
      · exact boundOk_iff h hx
    · cases h
end Go.Ev
namespace Go.Ev
noncomputable def doMinor (E:Env) (size:Nat) (all:List Oper) (x:DI) (tm:PT KV) (df:List KDef) (h:Heap) (nx:Nat):SR :=
  match wantedK all x.o tm with
  | none=>.fail
  | some false=>match tput size tm x.o.dst U with
    | some tm=>.ok tm df h nx
    | none=>.fail
  | some true=>match allocK E.P tm x.o.op with
    | some (ob,mk)=>match tput size tm x.o.dst (mk nx) with
      | some tm=>.ok tm df (h.put nx (some ob)) (Nat.succ nx)
      | none=>.fail
    | none=>match pureK E.P tm h x.o.op with
      | some v=>match tput size tm x.o.dst v with
        | some tm=>.ok tm df h nx
        | none=>.fail
      | none=>.fail
noncomputable def holdsK (E:Env) (all:List Oper) (x:DI) (tm:PT KV) (h:Heap):Bool :=
  match wantedK all x.o tm with
  | none=>false
  | some false=>true
  | some true=>match allocK E.P tm x.o.op with
    | some _=>true
    | none=>match pureK E.P tm h x.o.op with
      | some v=>match x.o.dst with
        | some d=>match tm.get d with
          | some u=>kvEq v u
          | none=>false
        | none=>true
      | none=>false
noncomputable def holdAll (E:Env) (all:List Oper) (tm:PT KV) (h:Heap):List DI→Bool
  | []=>true
  | x :: r=>match holdsK E all x tm h with
    | true=>holdAll E all tm h r
    | false=>false
noncomputable def runP (E:Env) (ck:Heap→Bool) (call:CallF) (yield:YieldF) (round:Bool) (size:Nat) (all:List Oper):List DS→PT KV→List KDef→Heap→Nat→SR
  | [],tm,df,h,nx=>.ok tm df h nx
  | .minor x :: r,tm,df,h,nx=>match doMinor E size all x tm df h nx with
    | .ok tm df h nx=>runP E ck call yield round size all r tm df h nx
    | .fail=>.fail
  | .major x fl :: r,tm,df,h,nx=>match wantedK all x.o tm with
    | none=>.fail
    | some false=>match tput size tm x.o.dst U with
      | some tm=>match holdAll E all tm h fl with
        | true=>runP E ck call yield round size all r tm df h nx
        | false=>.fail
      | none=>.fail
    | some true=>match doOp E call yield round size x.o tm df h nx with
      | .ok tm df h nx=>match ck h && holdAll E all tm h fl with
        | true=>runP E ck call yield round size all r tm df h nx
        | false=>.fail
      | .fail=>.fail
theorem holdAll_mem {E:Env} {all:List Oper} {tm:PT KV} {h:Heap} {x:DI} : ∀ {l:List DI},holdAll E all tm h l=true→x ∈ l→holdsK E all x tm h=true
  | y :: r,hh,hx=>by
    simp only [holdAll] at hh
    split at hh
    · rename_i hy
      rcases List.mem_cons.1 hx with rfl | hx
      · exact hy
      · exact holdAll_mem hh hx
    · cases hh
def HSub (h h':Heap):Prop:=∀ b o,h.get b=some o→h'.get b=some o
theorem HSub.refl (h:Heap):HSub h h:=fun _ _ h=>h
theorem HSub.trans {h h' h'':Heap} (a:HSub h h') (b:HSub h' h''):HSub h h'':=fun c o hc=>b c o (a c o hc)
section
variable {w0:World} {K:Nat→Prop} {ρ:Ren} {h h':Heap} {nx:Nat} {w:World}
theorem Rel.less (r:Rel w0 K ρ h nx w) (hs:HSub h' h):Rel w0 K ρ h' nx w where
  img b o c N hb hr:=r.img b o c N (hs b o hb) hr
  low b o hb:=r.low b o (hs b o hb)
  fresh:=r.fresh
  inj b b' o o' c N N' h1 h2 h3 h4:=r.inj b b' o o' c N N' (hs _ _ h1) (hs _ _ h2) h3 h4
  kept:=r.kept
  grown:=r.grown
  os:=r.os
  output:=r.output
  glob:=r.glob
theorem HSub.put (r:Rel w0 K ρ h nx w) (o:KObj):HSub h (h.put nx (some o)):=fun b o1 hb=>by
  have:=r.low b o1 hb
  rw [PT.get_put_ne _ _ _ _ (by omega)]
  exact hb
end
section
variable {E:Env}
variable {w0:World} {K:Nat→Prop} {ρ:Ren} {size:Nat} {tm tm':PT KV} {df df':List KDef} {h h':Heap} {nx nx':Nat} {a:Act} {w:World}
theorem wanted_ok' {ops:Array Oper} {o:Oper} {q:Bool} (hw:wantedK ops.toList o tm=some q)
    (ht : ∀ j want p d k,o.guard=some (j,want)→ops[j]?=some p→p.dst=some d→tm.get d=some k → ∃ v,a.tmps[d]?=some v∧RelV ρ k v):Region.wanted o (yielded ops a.tmps)=q:=by
  unfold wantedK at hw
  unfold Region.wanted
  split at hw
  · rename_i hg;cases hw;rw [hg]
  · rename_i j want hg
    rw [hg]
    simp only
    split at hw
    · rename_i p hp
      rw [lget_eq] at hp
      have hp':ops[j]?=some p:=by simpa using hp
      split at hw
      · rename_i d hd
        split at hw
        · rename_i b hb
          obtain ⟨v,h1,h2⟩:=ht j want p d _ hg hp' hd hb
          simp only [RelV] at h2
          subst h2
          cases hw
          simp [yielded,hp',hd,h1]
        · rename_i k hnb hk
          obtain ⟨v,h1,h2⟩:=ht j want p d _ hg hp' hd hk
          cases hw
          have hnot : ∀ b,v≠.bool b:=fun b e=>by
            subst e
            cases k <;> simp [RelV] at h2
            exact hnb _ rfl
          have:yielded ops a.tmps j=none:=by
            simp only [yielded,hp',Option.bind_some,hd,h1]
            split
            · rename_i heq;cases heq;exact absurd rfl (hnot _)
            · rfl
          rw [this];rfl
        · cases hw
      · rename_i hd
        cases hw
        simp [yielded,hp',hd]
    · rename_i hp
      rw [lget_eq] at hp
      have hp':ops[j]?=none:=by simpa using hp
      cases hw
      simp [yielded,hp']
theorem wantedK_congr {all:List Oper} {o:Oper} (h : ∀ j want p d,o.guard=some (j,want)→all[j]?=some p→p.dst=some d→tm'.get d=tm.get d):wantedK all o tm'=wantedK all o tm:=by
  unfold wantedK
  cases hg:o.guard with
  | none=>rfl
  | some q =>
    obtain ⟨j,want⟩:=q
    simp only [lget_eq]
    cases hp:all[j]? with
    | none=>rfl
    | some p =>
      simp only []
      cases hd:p.dst with
      | none=>rfl
      | some d=>simp only [h j want p d hg hp hd]
structure Left (E:Env) (w0:World) (K:Nat→Prop) (ρ:Ren) (size:Nat) (tm:PT KV) (h:Heap) (nx:Nat) (a:Act) (dst:Option Tmp) (tm':PT KV) (df':List KDef) (h':Heap) (nx':Nat) (a':Act) (w':World) (ρ':Ren):Prop where
  rel:Rel w0 K ρ' h' nx' w'
  stp:Stp ρ h nx ρ' h' nx'
  dfs:RelDs ρ' df' a'.defers
  val : ∃ k v,tput size tm dst k=some tm'∧RelV ρ' k v∧a'.tmps=(a.put dst v).tmps
theorem put_size (a:Act) (dst:Option Tmp) (v:Value):(a.put dst v).tmps.size=a.tmps.size:=by
  cases dst <;> simp [Act.put]
theorem put_defers (a:Act) (dst:Option Tmp) (v:Value):(a.put dst v).defers=a.defers:=by
  cases dst <;> rfl
theorem put_with (a:Act) (l:List Deferred) (dst:Option Tmp) (v:Value):(({ a with defers:=l } : Act).put dst v).tmps=(a.put dst v).tmps∧(({ a with defers:=l } : Act).put dst v).defers=l:=by
  cases dst <;> exact ⟨rfl,rfl⟩
theorem doOp_left (hE:ExtOk E) (hN:NamesOk E.P) {call:CallF} {yield:YieldF} (hcall:CallOk E call) (hyield:YieldOk E yield) {round:Bool} {o:Oper} (he:doOp E call yield round size o tm df h nx=.ok tm' df' h' nx')
    (r:Rel w0 K ρ h nx w) (hx:RelX ρ tm a.eval o.op.operands.toList) (hdf:RelDs ρ df a.defers) {b:Frame} {cs:List Frame} (hb:FrOk b cs round) {ops:Array Oper} {i:Nat} {rest:List Nat} {k:List Item} (ho:ops[i]?=some o) (hw:Region.wanted o (yielded ops a.tmps)=true) :
    ∃ a' w' ρ',Steps E.P (lone (fr b a (.inRegion ops (i :: rest) :: k)) cs w) (lone (fr b a' (.inRegion ops rest :: k)) cs w')∧Left E w0 K ρ size tm h nx a o.dst tm' df' h' nx' a' w' ρ':=by
  have hm:=op_ok hE r (o:=o) hx
  have hnd : ∀ x,opK E tm h nx o.op=x→x≠.fail→(∀ d,x≠.defer d)→b.roundOf=none ∨ ∀ c,o.op≠.defer c:=fun x hx h1 h2=>.inr fun c hc=>by
    rw [hc] at hx
    rcases op_defer (E:=E) (tm:=tm) (h:=h) (nx:=nx) c with h3 | ⟨d,h3⟩
    · exact h1 (hx.symm.trans h3)
    · exact h2 d (hx.symm.trans h3)
  unfold doOp at he
  split at he
  · cases he
  · rename_i v h1 nx1 hop
    rw [hop] at hm
    split at he
    · rename_i tm1 hput
      cases he
      obtain ⟨w',ρ',g1,g2,u,g3,g4⟩:=hm
      exact ⟨_,w',ρ',.one (st_value ho hw (hnd _ hop (by simp) (by simp)) g3),g1,g2,(by rw [put_defers];exact hdf.mono g2.sub),_,u,hput,g4,rfl⟩
    · cases he
  · rename_i h1 nx1 hop
    rw [hop] at hm
    split at he
    · rename_i tm1 hput
      cases he
      obtain ⟨w',ρ',g1,g2,g3⟩:=hm
      exact ⟨_,w',ρ',.one (st_skipped ho hw (hnd _ hop (by simp) (by simp)) g3),g1,g2,(by rw [put_defers];exact hdf.mono g2.sub),_,_,hput,relU,rfl⟩
    · cases he
  · rename_i d hop
    rw [hop] at hm
    split at he
    · cases he
    · split at he
      · rename_i tm1 hput
        cases he
        obtain ⟨d',g1,g2⟩:=hm
        have hr0:b.roundOf=none:=by have:=hb.round;cases hq:b.roundOf <;> simp_all
        have hst:=st_defer (P:=E.P) (b:=b) (k:=k) (cs:=cs) (rest:=rest) ho hw hr0 g2
        exact ⟨_,w,ρ,.one hst,r,.refl _ _ _,(by rw [(put_with a (d' :: a.defers) o.dst undef).2];simp only [RelDs];exact ⟨d',_,rfl,g1,hdf⟩),_,_,hput,relU,(put_with a _ o.dst undef).1⟩
      · cases he
  · rename_i hop
    rw [hop] at hm
    split at he
    · cases he
    · split at he
      · rename_i tm1 hput
        cases he
        have hr0:b.roundOf=none:=by have:=hb.round;cases hq:b.roundOf <;> simp_all
        exact ⟨_,w,ρ,.one (st_recover ho hw hr0 hb.calm hm),r,.refl _ _ _,(by rw [put_defers];exact hdf),_,.nilIface,hput,by simp only [RelV],rfl⟩
      · cases he
  · rename_i f args hop
    rw [hop] at hm
    split at he
    · rename_i v h1 nx1 hc
      split at he
      · rename_i tm1 hput
        cases he
        obtain ⟨vargs,g1,g2⟩:=hm
        obtain ⟨⟨fn,hf,hbody⟩,hsound⟩:=hcall _ _ _ _ _ _ _ hc
        rw [callFunc_enter hN hf hbody] at g2
        obtain ⟨fin,w',ρ',v',s1,s2,s3,s4,s5⟩:=hsound w0 K ρ w vargs r g1 .normal (fr b a (.inRegion ops (i :: rest) :: k) :: cs) (.inl rfl)
        have hst:=st_enter (P:=E.P) (b:=b) (k:=k) (cs:=cs) (rest:=rest) ho hw (hnd _ hop (by simp) (by simp)) g2
        have hfin:=fr_finish b a ops i rest k v'
        rw [ho] at hfin
        have hlast:=step_fin (c:=fr b a (.inRegion ops (i :: rest) :: k)) (cs:=cs) s2
        rw [hfin] at hlast
        exact ⟨_,w',ρ',.head hst (s1.trans (.one hlast)),s3,s4,(by rw [put_defers];exact hdf.mono s4.sub),_,v',hput,s5,rfl⟩
      · cases he
    · cases he
  · rename_i l args hop
    rw [hop] at hm
    split at he
    · rename_i v h1 nx1 hc
      split at he
      · rename_i tm1 hput
        cases he
        obtain ⟨c,N,hl,vargs,g1,g2⟩:=hm
        obtain ⟨f,tmps,assign,body,y1,y2⟩:=hyield _ _ _ _ _ _ _ hc w0 K ρ w vargs c N r hl g1
        rw [y1] at g2
        obtain ⟨w',ρ',v',s1,s3,s4,s5⟩:=y2 (fr b a (.inRegion ops (i :: rest) :: k)) cs
        have hst:=st_round (P:=E.P) (b:=b) (k:=k) (cs:=cs) (rest:=rest) ho hw (hnd _ hop (by simp) (by simp)) g2
        have hfin:=fr_finish b a ops i rest k v'
        rw [ho] at hfin
        rw [hfin] at s1
        exact ⟨_,w',ρ',.head hst s1,s3,s4,(by rw [put_defers];exact hdf.mono s4.sub),_,v',hput,s5,rfl⟩
      · cases he
    · cases he
theorem tput_get {dst:Option Tmp} {v:KV} (h:tput size tm dst v=some tm') (t:Tmp):tm'.get t=if dst=some t then some v else tm.get t:=by
  unfold tput at h
  split at h
  · rename_i d
    split at h
    · cases h
      rw [PT.get_put]
      by_cases e:t=d
      · simp [e]
      · rw [if_neg e,if_neg (by simpa using fun e'=>e e'.symm)]
    · cases h
  · cases h
    simp
theorem tput_lt {d:Tmp} {v:KV} (h:tput size tm (some d) v=some tm'):d<size:=by
  simp only [tput] at h
  split at h
  · rename_i hlt;simpa [Nat.blt_eq] using hlt
  · cases h
theorem put_get (a:Act) (dst:Option Tmp) (v:Value) (t:Tmp):(a.put dst v).tmps[t]?=if dst=some t then (if t<a.tmps.size then some v else none) else a.tmps[t]?:=by
  cases dst with
  | none=>simp [Act.put]
  | some d =>
    simp only [Act.put]
    by_cases e:d=t
    · subst e
      simp [Array.getElem?_setIfInBounds]
    · rw [Array.getElem?_setIfInBounds_ne e,if_neg (by simpa using e)]
end
end Go.Ev
namespace Go.Ev
section
variable (E:Env) (ck:Heap→Bool) (lo:Nat) (call:CallF) (yield:YieldF) (round:Bool) (size:Nat) (ops:Array Oper) (L L2:List DI)
variable (w0:World) (K:Nat→Prop) (ρ0:Ren) (h0:Heap) (nx0:Nat)
variable (tmF:PT KV) (dfF:List KDef) (hF:Heap) (nxF:Nat)
structure PlanFor:Prop where
  dis : ∀ x ∈ L,DIok ops.toList x
  dis2 : ∀ x ∈ L2,DIok ops.toList x
  all:allOk L=true
  at_ : ∀ i,i<ops.size→(∃ x ∈ L,x.i=i) ∨ ∃ x ∈ L2,x.i=i
  down : ∀ x ∈ L,∀ j,x.before.testBit j=true → ∃ y ∈ L,y.i=j
def Pend (own:Nat→Option Nat) (ρ:Ren) (T:PT KV) (H:Heap) (x:DI):Prop :=
  (∀ d,x.o.dst=some d→d<size) ∧
  ((wantedK ops.toList x.o T=some false ∧ ∀ d,x.o.dst=some d→T.get d=some U)
  ∨ (wantedK ops.toList x.o T=some true∧allocK E.P T x.o.op=none ∧ ∃ h v,HSub h H∧pureK E.P T h x.o.op=some v ∧ ∀ d,x.o.dst=some d→T.get d=some v)
  ∨ (wantedK ops.toList x.o T=some true ∧ ∃ ob mk b,allocK E.P T x.o.op=some (ob,mk)∧H.get b=some ob∧ρ b=none∧nx0≤b∧own b=some x.i ∧ ∀ d,x.o.dst=some d→T.get d=some (mk b)))
abbrev Off (listed:Array Bool) (x:DI):Prop:=listed.getD x.i false=false
structure DInv (done rest fl:List DI) (T:PT KV) (df:List KDef) (H:Heap) (nx:Nat) (own:Nat→Option Nat) (ρ:Ren) (listed:Array Bool) (a:Act) (w:World):Prop where
  split:L=done ++ rest
  run:runP E ck call yield round size ops.toList (mkPlan rest fl) T df H nx=.ok tmF dfF hF nxF
  dl : ∀ x ∈ done,x.major=true→listed.getD x.i false=true
  rl : ∀ x ∈ rest,Off listed x
  pf : ∀ x ∈ done,Off listed x→x ∈ fl∧Pend E size ops nx0 own ρ T H x
  rel:Rel w0 K ρ H nx w
  stp:Stp ρ0 h0 nx0 ρ H nx
  dfs:RelDs ρ df a.defers
  size:a.tmps.size=size
  tms : ∀ t k,T.get t=some k→(∀ x ∈ done,Off listed x→x.o.dst≠some t) → ∃ v,a.tmps[t]?=some v∧RelV ρ k v
  closed:Closed ops listed
  lsz:listed.size=ops.size
  ckH:ck H=true
  lo_le:lo≤nx
def Settled (rest:List DI):Prop:=∀ x r,rest=x :: r→x.major=true
variable {E ck lo call yield round size ops L L2 w0 K ρ0 h0 nx0 tmF dfF hF nxF}
theorem di_op (hp:PlanFor ops L L2) {x:DI} (hx:x ∈ L):ops[x.i]?=some x.o:=by
  have:=(hp.dis x hx).op
  simpa using this
theorem guard_at (hp:PlanFor ops L L2) {x:DI} (hx:x ∈ L) {j:Nat} {want:Bool} {p:Oper} (hg:x.o.guard=some (j,want)) (hj:ops.toList[j]?=some p) :
    ∃ y ∈ L,y.i=j∧y.o=p∧x.before.testBit y.i=true:=by
  have hbit:=(allOk_self hp.all hx).guard j want hg
  obtain ⟨y,hy,he⟩:=hp.down x hx j hbit
  refine ⟨y,hy,he,?_,?_⟩
  · have:=(hp.dis y hy).op
    rw [he,hj] at this
    exact (Option.some.inj this).symm
  · rw [he]
    exact hbit
theorem one_writer (hp:PlanFor ops L L2) {x y:DI} (hx:x ∈ L) (hy:y ∈ L) {d:Tmp} (h1:x.o.dst=some d) (h2:y.o.dst=some d):x=y:=by
  rcases allOk_two (hp.all) hx hy with h | h | h
  · exact h
  · exact (h.dst d h1 h2).elim
  · exact (h.dst d h2 h1).elim
theorem wanted_same (hp:PlanFor ops L L2) {x z:DI} (hx:x ∈ L) (hz:z ∈ L) (hb:z.before.testBit x.i=false) {T T1:PT KV} {v:KV} (h:tput size T x.o.dst v=some T1) :
    wantedK ops.toList z.o T1=wantedK ops.toList z.o T:=by
  refine wantedK_congr fun j want p d hg hj hd => ?_
  obtain ⟨y,hy,he,ho,hbit⟩:=guard_at hp hz hg hj
  rw [tput_get h]
  by_cases hxd:x.o.dst=some d
  · have:=one_writer hp hx hy hxd (by rw [ho];exact hd)
    subst this
    rw [hb] at hbit;cases hbit
  · rw [if_neg hxd]
theorem sameAt_put (hp:PlanFor ops L L2) {z:DI} (hz:z ∈ L) {T T1:PT KV} {dst:Option Tmp} {v:KV} (h:tput size T dst v=some T1) (hr : ∀ d,dst=some d→¬ d ∈ z.reads):SameAt T1 T z.o.op.operands.toList:=by
  intro y hy
  cases y with
  | tmp t =>
    simp only [evalK]
    rw [tput_get h]
    by_cases hd:dst=some t
    · refine absurd ?_ (hr t hd)
      rw [(hp.dis z hz).reads,tmpsOf_iff]
      exact hy
    · rw [if_neg hd]
  | const _=>rfl
  | global _=>rfl
  | func _=>rfl
theorem relx_of {ρ:Ren} {tm:PT KV} {h:Heap} {nx:Nat} {a:Act} {w:World} (r:Rel w0 K ρ h nx w) {l:List Operand} (hl : ∀ t k,Operand.tmp t ∈ l→tm.get t=some k → ∃ v,a.tmps[t]?=some v∧RelV ρ k v):RelX ρ tm a.eval l:=by
  intro x hx k hk
  cases x with
  | tmp t =>
    obtain ⟨v,h1,h2⟩:=hl t k hx hk
    have:a.eval (.tmp t)=v:=by simp [Act.eval,h1]
    rw [this];exact h2
  | const v=>exact ofVal_rel hk
  | global g =>
    simp only [evalK] at hk
    split at hk
    · rename_i hg
      cases hk
      obtain ⟨N,h1⟩:=r.glob g (by simpa [Nat.blt_eq] using hg)
      simp only [RelV]
      exact ⟨g,N,h1,rfl⟩
    · cases hk
  | func f =>
    simp only [evalK,Option.some.injEq] at hk
    subst hk
    simp only [Act.eval,RelV,RelVs]
    exact ⟨_,_,_,rfl,rfl,by simp,by simp⟩
theorem Pend.stay (hp:PlanFor ops L L2) {x z:DI} (hx:x ∈ L) (hz:z ∈ L) (hb:z.before.testBit x.i=false) (hd : ∀ d,x.o.dst=some d→z.o.dst=some d→False) (hr : ∀ d,x.o.dst=some d→¬ d ∈ z.reads)
    {own own':Nat→Option Nat} {ρ:Ren} {T T1:PT KV} {H H1:Heap} {v:KV} (h:tput size T x.o.dst v=some T1) (hH:HSub H H1) (ho : ∀ b o,H.get b=some o→own' b=own b) (hpd:Pend E size ops nx0 own ρ T H z):Pend E size ops nx0 own' ρ T1 H1 z:=by
  have hw:=wanted_same hp hx hz hb h
  have hs:=sameAt_put hp hz h hr
  have hdz : ∀ d,z.o.dst=some d→T1.get d=T.get d:=fun d hzd=>by
    rw [tput_get h,if_neg fun e=>hd d e hzd]
  obtain ⟨hlt,hpd⟩:=hpd
  refine ⟨hlt,?_⟩
  rcases hpd with ⟨h1,h2⟩ | ⟨h1,h2,hh,u,h3,h4,h5⟩ | ⟨h1,ob,mk,b,h2,h3,h4,h5,h6,h7⟩
  · exact .inl ⟨hw.trans h1,fun d hd=>(hdz d hd).trans (h2 d hd)⟩
  · exact .inr (.inl ⟨hw.trans h1,(allocK_congr hs).trans h2,hh,u,h3.trans hH,(pureK_congr hs).trans h4,fun d hd=>(hdz d hd).trans (h5 d hd)⟩)
  · exact .inr (.inr ⟨hw.trans h1,ob,mk,b,(allocK_congr hs).trans h2,hH _ _ h3,h4,h5,(ho b ob h3).trans h6,fun d hd=>(hdz d hd).trans (h7 d hd)⟩)
theorem settle (hp:PlanFor ops L L2) (hck : ∀ {H:Heap} {nx:Nat} {ob:KObj},lo≤nx→ck H=true→ck (H.put nx (some ob))=true) : ∀ (rest done fl:List DI) (T:PT KV) (df:List KDef) (H:Heap) (nx:Nat) (own:Nat→Option Nat) {ρ:Ren} {listed:Array Bool} {a:Act} {w:World},
    DInv E ck lo call yield round size ops L w0 K ρ0 h0 nx0 tmF dfF hF nxF done rest fl T df H nx own ρ listed a w →
    ∃ done' rest' fl' T' df' H' nx' own',DInv E ck lo call yield round size ops L w0 K ρ0 h0 nx0 tmF dfF hF nxF done' rest' fl' T' df' H' nx' own' ρ listed a w∧Settled rest'∧nx≤nx' ∧ ∀ b,b<nx→H'.get b=H.get b
  | [],done,fl,T,df,H,nx,own,ρ,listed,a,w,v=>⟨done,[],fl,T,df,H,nx,own,v,(fun _ _ h=>by cases h),Nat.le_refl _,fun _ _=>rfl⟩
  | x :: r, done,fl,T,df,H,nx,own,ρ,listed,a,w,v=>by
    cases hmaj:x.major with
    | true=>exact ⟨done,x :: r,fl,T,df,H,nx,own,v,(fun y s h=>by cases h;exact hmaj),Nat.le_refl _,fun _ _=>rfl⟩
    | false =>
      have hall:=hp.all
      have hxL:x ∈ L:=by rw [v.split];simp
      have hrun:=v.run
      simp only [mkPlan,hmaj,runP] at hrun
      have hself:=allOk_self hall hxL
      have hxoff:Off listed x:=v.rl x (by simp)
      have main : ∀ (T1:PT KV) (H1:Heap) (nx1:Nat) (own1:Nat→Option Nat) (k:KV),tput size T x.o.dst k=some T1 →
          runP E ck call yield round size ops.toList (mkPlan r (x :: fl)) T1 df H1 nx1=.ok tmF dfF hF nxF→HSub H H1→(∀ b o,H.get b=some o→own1 b=own b)→Rel w0 K ρ H1 nx1 w→Stp ρ0 h0 nx0 ρ H1 nx1→ck H1=true→nx≤nx1→(∀ b,b<nx→H1.get b=H.get b) →
          Pend E size ops nx0 own1 ρ T1 H1 x →
          ∃ done' rest' fl' T' df' H' nx' own',DInv E ck lo call yield round size ops L w0 K ρ0 h0 nx0 tmF dfF hF nxF done' rest' fl' T' df' H' nx' own' ρ listed a w∧Settled rest'∧nx≤nx' ∧ ∀ b,b<nx→H'.get b=H.get b:=by
        intro T1 H1 nx1 own1 k hput hrun1 hH ho hrel hstp hckH hup hold hpx
        have v1:DInv E ck lo call yield round size ops L w0 K ρ0 h0 nx0 tmF dfF hF nxF (done ++ [x]) r (x :: fl) T1 df H1 nx1 own1 ρ listed a w:={
          split:=by rw [v.split];simp
          run:=hrun1
          dl:=fun y hy hm=>by
            rcases List.mem_append.1 hy with hy | hy
            · exact v.dl y hy hm
            · simp only [List.mem_singleton] at hy;subst hy;rw [hmaj] at hm;cases hm
          rl:=fun y hy=>v.rl y (by simp [hy])
          pf:=fun z hz hoff=>by
            rcases List.mem_append.1 hz with hz | hz
            · obtain ⟨h1,h2⟩:=v.pf z hz hoff
              have hzL:z ∈ L:=by rw [v.split];simp [hz]
              have hpair:PairOk z x:=allOk_pair hall v.split hz (by simp)
              refine ⟨by simp [h1],h2.stay hp hxL hzL hpair.back (fun d a b=>hpair.dst d b a) (fun d hd hr => ?_) hput hH ho⟩
              have:=(hpair.anti d hd hr).1
              rw [hmaj] at this;cases this
            · simp only [List.mem_singleton] at hz;subst hz
              exact ⟨by simp,hpx⟩
          rel:=hrel
          stp:=hstp
          dfs:=v.dfs
          size:=v.size
          tms:=fun t q hq hno=>by
            have hne:x.o.dst≠some t:=hno x (by simp) hxoff
            rw [tput_get hput,if_neg hne] at hq
            exact v.tms t q hq fun z hz=>hno z (by simp [hz])
          closed:=v.closed
          lsz:=v.lsz
          ckH:=hckH
          lo_le:=Nat.le_trans v.lo_le hup }
        obtain ⟨done',rest',fl',T',df',H',nx',own',v',s',u',o'⟩:=settle hp hck r (done ++ [x]) (x :: fl) T1 df H1 nx1 own1 v1
        exact ⟨done',rest',fl',T',df',H',nx',own',v',s',Nat.le_trans hup u',fun b hb=>(o' b (by omega)).trans (hold b hb)⟩
      have hsame : ∀ {T1:PT KV} {k:KV},tput size T x.o.dst k=some T1→wantedK ops.toList x.o T1=wantedK ops.toList x.o T∧SameAt T1 T x.o.op.operands.toList∧(∀ d,x.o.dst=some d→d<size∧T1.get d=some k):=fun {T1 k} hput =>
        ⟨wanted_same hp hxL hxL hself.back hput,sameAt_put hp hxL hput (hself.own hmaj),fun d hd=>⟨tput_lt (by rw [hd] at hput;exact hput),by rw [tput_get hput,if_pos hd]⟩⟩
      unfold doMinor at hrun
      cases hw:wantedK ops.toList x.o T with
      | none=>simp only [hw] at hrun;cases hrun
      | some q =>
        cases q with
        | false =>
          simp only [hw] at hrun
          cases hput:tput size T x.o.dst U with
          | none=>simp only [hput] at hrun;cases hrun
          | some T1 =>
            simp only [hput] at hrun
            obtain ⟨h1,h2,h3⟩:=hsame hput
            exact main T1 H nx own U hput hrun (.refl H) (fun _ _ _=>rfl) v.rel v.stp v.ckH (Nat.le_refl _) (fun _ _=>rfl) ⟨fun d hd=>(h3 d hd).1,.inl ⟨h1.trans hw,fun d hd=>(h3 d hd).2⟩⟩
        | true =>
          simp only [hw] at hrun
          cases hal:allocK E.P T x.o.op with
          | some p =>
            obtain ⟨ob,mk⟩:=p
            simp only [hal] at hrun
            cases hput:tput size T x.o.dst (mk nx) with
            | none=>simp only [hput] at hrun;cases hrun
            | some T1 =>
              simp only [hput] at hrun
              obtain ⟨h1,h2,h3⟩:=hsame hput
              have hbelow : ∀ b o,H.get b=some o→b≠nx:=fun b o hb e=>by
                have:=v.rel.low b o hb;omega
              refine main T1 (H.put nx (some ob)) (Nat.succ nx) (fun b=>if b=nx then some x.i else own b) (mk nx) hput hrun (.put v.rel ob) (fun b o hb=>if_neg (hbelow b o hb)) (v.rel.wait ob) ?_ (hck v.lo_le v.ckH) (Nat.le_succ _) (fun b hb=>PT.get_put_ne _ _ _ _ (by omega)) ⟨fun d hd=>(h3 d hd).1,.inr (.inr ⟨h1.trans hw,ob,mk,nx,(allocK_congr h2).trans hal,PT.get_put_eq _ _ _,v.rel.fresh nx (Nat.le_refl _),v.stp.up,if_pos rfl,fun d hd=>(h3 d hd).2⟩)⟩
              exact ⟨v.stp.sub,Nat.le_succ_of_le v.stp.up,fun b hb hn=>by
                obtain ⟨g1,g2⟩:=v.stp.pend b hb hn
                have:=v.stp.up
                exact ⟨g1,by rw [PT.get_put_ne _ _ _ _ (by omega)];exact g2⟩⟩
          | none =>
            simp only [hal] at hrun
            cases hpu:pureK E.P T H x.o.op with
            | none=>simp only [hpu] at hrun;cases hrun
            | some u =>
              simp only [hpu] at hrun
              cases hput:tput size T x.o.dst u with
              | none=>simp only [hput] at hrun;cases hrun
              | some T1 =>
                simp only [hput] at hrun
                obtain ⟨h1,h2,h3⟩:=hsame hput
                exact main T1 H nx own u hput hrun (.refl H) (fun _ _ _=>rfl) v.rel v.stp v.ckH (Nat.le_refl _) (fun _ _=>rfl) ⟨fun d hd=>(h3 d hd).1,.inr (.inl ⟨h1.trans hw,(allocK_congr h2).trans hal,H,u,.refl H,(pureK_congr h2).trans hpu,fun d hd=>(h3 d hd).2⟩)⟩
end
end Go.Ev
namespace Go.Ev
section
variable {E:Env} {ck:Heap→Bool} {lo:Nat} {call:CallF} {yield:YieldF} {round:Bool} {size:Nat} {ops:Array Oper} {L L2:List DI}
variable {w0:World} {K:Nat→Prop} {ρ0:Ren} {h0:Heap} {nx0:Nat}
variable {tmF:PT KV} {dfF:List KDef} {hF:Heap} {nxF:Nat}
variable {done rest fl:List DI} {T:PT KV} {df:List KDef} {H:Heap} {nx:Nat} {own:Nat→Option Nat} {ρ:Ren} {listed:Array Bool} {a:Act} {w:World}
theorem DInv.inL (v:DInv E ck lo call yield round size ops L w0 K ρ0 h0 nx0 tmF dfF hF nxF done rest fl T df H nx own ρ listed a w) {x:DI} (hx:x ∈ done):x ∈ L:=by
  rw [v.split];simp [hx]
theorem DInv.bits (hp:PlanFor ops L L2) (v:DInv E ck lo call yield round size ops L w0 K ρ0 h0 nx0 tmF dfF hF nxF done rest fl T df H nx own ρ listed a w) {x:DI} (hx:x ∈ L) (hr:x.i ∈ Region.ready .any ops listed) (hs:x.before.testBit x.i=false) {j:Nat} (hj:x.before.testBit j=true):listed.getD j false=true:=by
  have hl:x.i<listed.size:=by
    have h0:=mem_ready.1 hr
    rcases Nat.lt_or_ge x.i listed.size with h' | h'
    · exact h'
    · simp [Array.getElem?_eq_none h'] at h0
  have hne:x.i≠j:=fun e=>by subst e;rw [hs] at hj;cases hj
  have:=(hp.dis x hx).closed (listed.setIfInBounds x.i true) (by simpa using v.closed.step hr) (by simp [hl]) j hj
  rwa [getD_set_ne false hne] at this
theorem DInv.operands (hp:PlanFor ops L L2) (v:DInv E ck lo call yield round size ops L w0 K ρ0 h0 nx0 tmF dfF hF nxF done rest fl T df H nx own ρ listed a w) {x:DI} (hx:x ∈ L) (hr:x.i ∈ Region.ready .any ops listed)
    (hcase:(x ∈ done∧x.major=false)∨x ∈ rest):RelX ρ T a.eval x.o.op.operands.toList:=by
  have hall:=hp.all
  have hself:=allOk_self hall hx
  refine relx_of v.rel fun t k ht hk=>v.tms t k hk fun z hz hoff hd => ?_
  have htr:t ∈ x.reads:=by
    rw [(hp.dis x hx).reads,tmpsOf_iff];exact ht
  have flow:PairOk z x→False:=fun hpair=>by
    have:=v.bits hp hx hr hself.back (hpair.flow t hd htr)
    simp only [Off] at hoff
    rw [hoff] at this;cases this
  rcases hcase with ⟨hxd,hmaj⟩ | hxr
  · rcases allOk_two hall (v.inL hz) hx with h | h | h
    · subst h;exact hself.own hmaj t hd htr
    · exact flow h
    · have:=v.dl z hz (h.anti t hd htr).1
      simp only [Off] at hoff
      rw [hoff] at this;cases this
  · exact flow (allOk_pair hall v.split hz hxr)
theorem DInv.wanted (hp:PlanFor ops L L2) (v:DInv E ck lo call yield round size ops L w0 K ρ0 h0 nx0 tmF dfF hF nxF done rest fl T df H nx own ρ listed a w) {x:DI} (hx:x ∈ L) (hr:x.i ∈ Region.ready .any ops listed)
    {q:Bool} (hw:wantedK ops.toList x.o T=some q):Region.wanted x.o (yielded ops a.tmps)=q:=by
  have hself:=allOk_self (hp.all) hx
  refine wanted_ok' hw fun j want p d k hg hj hd hk=>v.tms d k hk fun z hz hoff hzd => ?_
  obtain ⟨y,hy,he,ho,hbit⟩:=guard_at hp hx hg (by simpa using hj)
  have:=one_writer hp hy (v.inL hz) (by rw [ho];exact hd) hzd
  subst this
  have:=v.bits hp hx hr hself.back hbit
  simp only [Off] at hoff
  rw [hoff] at this;cases this
theorem getD_set_self {listed:Array Bool} {i:Nat} (h:i<listed.size) (d:Bool):(listed.setIfInBounds i true).getD i d=true:=by
  simp [h]
theorem DInv.minor (hp:PlanFor ops L L2) (v:DInv E ck lo call yield round size ops L w0 K ρ0 h0 nx0 tmF dfF hF nxF done rest fl T df H nx own ρ listed a w) {x:DI} (hx:x ∈ done) (hr:x.i ∈ Region.ready .any ops listed) (hl:x.i<listed.size)
    {ρ':Ren} {w':World} {u:Value} {k:KV} (hrel:Rel w0 K ρ' H nx w') (hsub:ρ.Sub ρ') (hstp:Stp ρ0 h0 nx0 ρ' H nx) (hk : ∀ d,x.o.dst=some d→d<size∧T.get d=some k) (hv:RelV ρ' k u) (hown : ∀ b j,own b=some j→j≠x.i→ρ b=none→ρ' b=none) :
    DInv E ck lo call yield round size ops L w0 K ρ0 h0 nx0 tmF dfF hF nxF done rest fl T df H nx own ρ' (listed.setIfInBounds x.i true) (a.put x.o.dst u) w' where
  split:=v.split
  run:=v.run
  dl y hy hm:=getD_set_true (v.dl y hy hm)
  rl y hy:=by
    have hne:=(allOk_pair (hp.all) v.split hx hy).ne
    show _=_
    rw [getD_set_ne false hne];exact v.rl y hy
  pf z hz hoff:=by
    have hne:x.i≠z.i:=fun e=>by
      have:(listed.setIfInBounds x.i true).getD z.i false=true:=by rw [← e];exact getD_set_self hl false
      simp only [Off] at hoff
      rw [hoff] at this;cases this
    have hoff':Off listed z:=by simpa only [Off,getD_set_ne false hne] using hoff
    obtain ⟨h1,hlt,h2⟩:=v.pf z hz hoff'
    refine ⟨h1,hlt,?_⟩
    rcases h2 with h2 | h2 | ⟨g1,ob,mk,b,g2,g3,g4,g5,g6,g7⟩
    · exact .inl h2
    · exact .inr (.inl h2)
    · exact .inr (.inr ⟨g1,ob,mk,b,g2,g3,hown b z.i g6 (fun e=>hne e.symm) g4,g5,g6,g7⟩)
  rel:=hrel
  stp:=hstp
  dfs:=by rw [put_defers];exact v.dfs.mono hsub
  size:=by rw [put_size];exact v.size
  tms t q hq hno:=by
    rw [put_get]
    by_cases hd:x.o.dst=some t
    · obtain ⟨h1,h2⟩:=hk t hd
      rw [h2] at hq;cases hq
      exact ⟨u,by rw [if_pos hd,if_pos (by rw [v.size];exact h1)],hv⟩
    · rw [if_neg hd]
      obtain ⟨u',h1,h2⟩:=v.tms t q hq fun z hz hoff=>by
        by_cases he:z.i=x.i
        · rcases allOk_two (hp.all) (v.inL hz) (v.inL hx) with e | e | e
          · subst e;exact hd
          · exact absurd he e.ne
          · exact absurd he.symm e.ne
        · refine hno z hz ?_
          show _=_
          rw [getD_set_ne false (fun e=>he e.symm)];exact hoff
      exact ⟨u',h1,RelV.mono hsub _ _ h2⟩
  closed:=v.closed.step hr
  lsz:=by simpa using v.lsz
  ckH:=v.ckH
  lo_le:=v.lo_le
theorem DInv.major (hp:PlanFor ops L L2) {x:DI} {r:List DI} (v:DInv E ck lo call yield round size ops L w0 K ρ0 h0 nx0 tmF dfF hF nxF done (x :: r) fl T df H nx own ρ listed a w) (hr:x.i ∈ Region.ready .any ops listed) (hl:x.i<listed.size) (_hm:x.major=true)
    {T1:PT KV} {df1:List KDef} {H1:Heap} {nx1:Nat} {a':Act} {w':World} {ρ':Ren} (hleft:Left E w0 K ρ size T H nx a x.o.dst T1 df1 H1 nx1 a' w' ρ') (hrun:runP E ck call yield round size ops.toList (mkPlan r (floats x fl)) T1 df1 H1 nx1=.ok tmF dfF hF nxF) (hold:holdAll E ops.toList T1 H1 (floats x fl)=true) (hckH:ck H1=true) :
    DInv E ck lo call yield round size ops L w0 K ρ0 h0 nx0 tmF dfF hF nxF (done ++ [x]) r (floats x fl) T1 df1 H1 nx1 own ρ' (listed.setIfInBounds x.i true) a' w':=by
  have hall:=hp.all
  have hxL:x ∈ L:=by rw [v.split];simp
  have hself:=allOk_self hall hxL
  obtain ⟨k,u,hput,hu,htm⟩:=hleft.val
  have offOf : ∀ z,Off (listed.setIfInBounds x.i true) z→x.i≠z.i∧Off listed z:=fun z hoff=>by
    have hne:x.i≠z.i:=fun e=>by
      have:(listed.setIfInBounds x.i true).getD z.i false=true:=by rw [← e];exact getD_set_self hl false
      simp only [Off] at hoff
      rw [hoff] at this;cases this
    exact ⟨hne,by simpa only [Off,getD_set_ne false hne] using hoff⟩
  exact {
    split:=by rw [v.split];simp
    run:=hrun
    dl:=fun y hy hm=>by
      rcases List.mem_append.1 hy with hy | hy
      · exact getD_set_true (v.dl y hy hm)
      · simp only [List.mem_singleton] at hy;subst hy;exact getD_set_self hl false
    rl:=fun y hy=>by
      have hne:=(allOk_pair hall (l1:=done ++ [x]) (l2:=r) (by rw [v.split];simp) (by simp:x ∈ done ++ [x]) hy).ne
      show _=_
      rw [getD_set_ne false hne];exact v.rl y (by simp [hy])
    pf := fun z hz hoff=>by
      obtain ⟨hne,hoff'⟩:=offOf z hoff
      have hz':z ∈ done:=by
        rcases List.mem_append.1 hz with hz | hz
        · exact hz
        · simp only [List.mem_singleton] at hz;subst hz;exact absurd rfl hne
      obtain ⟨h1,hlt,h2⟩:=v.pf z hz' hoff'
      have hzL:=v.inL hz'
      have hpair:PairOk z x:=allOk_pair hall v.split hz' (by simp)
      have hnb:x.before.testBit z.i=false:=by
        cases hb:x.before.testBit z.i with
        | false=>rfl
        | true =>
          have:=v.bits hp hxL hr hself.back hb
          simp only [Off] at hoff'
          rw [hoff'] at this;cases this
      have hfl:z ∈ floats x fl:=floats_mem h1 (by rw [bit_eq];exact hnb)
      have hh:=holdAll_mem hold hfl
      have hw:=wanted_same hp hxL hzL hpair.back hput
      have hs:SameAt T1 T z.o.op.operands.toList:=sameAt_put hp hzL hput fun d hd hrd=>by
        have:=(hpair.anti d hd hrd).2
        rw [hnb] at this;cases this
      have hdz : ∀ d,z.o.dst=some d→T1.get d=T.get d:=fun d hzd=>by
        rw [tput_get hput,if_neg fun e=>hpair.dst d hzd e]
      refine ⟨hfl,hlt,?_⟩
      rcases h2 with ⟨g1,g2⟩ | ⟨g1,g2,hh0,q,g3,g4,g5⟩ | ⟨g1,ob,mk,b,g2,g3,g4,g5,g6,g7⟩
      · exact .inl ⟨hw.trans g1,fun d hd=>(hdz d hd).trans (g2 d hd)⟩
      · refine .inr (.inl ?_)
        have hw1:=hw.trans g1
        have hal1:=(allocK_congr (P:=E.P) hs).trans g2
        simp only [holdsK,hw1,hal1] at hh
        cases hpu:pureK E.P T1 H1 z.o.op with
        | none=>simp only [hpu] at hh;cases hh
        | some q' =>
          simp only [hpu] at hh
          refine ⟨hw1,hal1,H1,q',.refl H1,hpu,fun d hd => ?_⟩
          simp only [hd] at hh
          cases hg:T1.get d with
          | none=>simp only [hg] at hh;cases hh
          | some p =>
            simp only [hg] at hh
            rw [kvEq_eq _ _ hh]
      · obtain ⟨p1,p2⟩:=hleft.stp.pend b (v.rel.low b ob g3) g4
        exact .inr (.inr ⟨hw.trans g1,ob,mk,b,(allocK_congr hs).trans g2,p2.trans g3,p1,g5,g6,fun d hd=>(hdz d hd).trans (g7 d hd)⟩)
    rel:=hleft.rel
    stp:=v.stp.trans hleft.stp
    dfs:=hleft.dfs
    size:=by rw [htm,put_size];exact v.size
    tms:=fun t q hq hno=>by
      rw [htm,put_get]
      rw [tput_get hput] at hq
      by_cases hd:x.o.dst=some t
      · rw [if_pos hd] at hq
        cases hq
        exact ⟨u,by rw [if_pos hd,if_pos (by rw [v.size];exact tput_lt (by rw [hd] at hput;exact hput))],hu⟩
      · rw [if_neg hd] at hq ⊢
        obtain ⟨u',h1,h2⟩:=v.tms t q hq fun z hz hoff=>by
          have hne:=(allOk_pair hall v.split hz (by simp:x ∈ x :: r)).ne
          refine hno z (by simp [hz]) ?_
          show _=_
          rw [getD_set_ne false (fun e=>hne e.symm)];exact hoff
        exact ⟨u',h1,RelV.mono hleft.stp.sub _ _ h2⟩
    closed:=v.closed.step hr
    lsz:=by simpa using v.lsz
    ckH:=hckH
    lo_le:=Nat.le_trans v.lo_le hleft.stp.up }
def Quiet (K Q:Nat→Prop) (w:World) (H:Heap) (ρ:Ren):Prop:=∀ c,Q c→(∃ ents clock,w.heap[c]?=some (.map ents clock))∧¬ K c ∧ ∀ b o N,H.get b=some o→ρ b=some (c,N)→False
theorem Quiet.lt {K Q:Nat→Prop} {w:World} {H:Heap} {ρ:Ren} (q:Quiet K Q w H ρ) {c:Nat} (hc:Q c):c<w.heap.size:=by
  obtain ⟨⟨_,_,h⟩,_⟩:=q c hc
  exact (Array.getElem?_eq_some_iff.1 h).1
theorem Rel.guard {Q:Nat→Prop} (r:Rel w0 K ρ H nx w) (q:Quiet K Q w H ρ):Rel w (fun c=>K c∨Q c) ρ H nx w where
  img b o c N hb hr:=by
    obtain ⟨o',h1,h2,h3⟩:=r.img b o c N hb hr
    exact ⟨o',h1,h2,fun hw hk=>hk.elim (h3 hw) fun hq=>(q c hq).2.2 b o N hb hr⟩
  low:=r.low
  fresh:=r.fresh
  inj:=r.inj
  kept c hk:=by
    refine ⟨hk.elim (fun h => ?_) fun h=>q.lt h,rfl⟩
    have:=(r.kept c h).1
    have:=r.grown
    omega
  grown:=Nat.le_refl _
  os:=rfl
  output:=rfl
  glob:=r.glob
theorem Rel.unguard {Q:Nat→Prop} {ρ':Ren} {H':Heap} {nx':Nat} {w':World} (r:Rel w0 K ρ H nx w) (q:Quiet K Q w H ρ) (r':Rel w (fun c=>K c∨Q c) ρ' H' nx' w') :
    Rel w0 K ρ' H' nx' w'∧Quiet K Q w' H' ρ' ∧ ∀ c,Q c→w'.heap[c]?=w.heap[c]?:=by
  refine ⟨⟨fun b o c N hb hr => ?_,r'.low,r'.fresh,r'.inj,fun c hk => ?_,Nat.le_trans r.grown r'.grown,r'.os.trans r.os,r'.output.trans r.output,r'.glob⟩,fun c hc => ?_,fun c hc=>(r'.kept c (.inr hc)).2⟩
  · obtain ⟨o',h1,h2,h3⟩:=r'.img b o c N hb hr
    exact ⟨o',h1,h2,fun hw hk=>h3 hw (.inl hk)⟩
  · obtain ⟨h1,h2⟩:=r.kept c hk
    exact ⟨h1,(r'.kept c (.inl hk)).2.trans h2⟩
  · obtain ⟨⟨ents,clock,h1⟩,h2,h3⟩:=q c hc
    have h4:=(r'.kept c (.inr hc)).2.trans h1
    refine ⟨⟨ents,clock,h4⟩,h2,fun b o N hb hr => ?_⟩
    obtain ⟨o',g1,g2,g3⟩:=r'.img b o c N hb hr
    rw [h4] at g1
    cases g1
    cases hw:o.writable with
    | true=>exact g3 hw (.inr hc)
    | false =>
      cases o with
      | cells n cs ro=>obtain ⟨_,_,_,h5,_⟩:=g2;cases h5
      | map _=>cases hw
      | loop _=>cases hw
      | deferred=>cases hw
theorem Quiet.settle {Q:Nat→Prop} {H':Heap} (q:Quiet K Q w H ρ) (r:Rel w0 K ρ H nx w) (ho : ∀ b,b<nx→H'.get b=H.get b):Quiet K Q w H' ρ:=fun c hc=>by
  obtain ⟨h1,h2,h3⟩:=q c hc
  refine ⟨h1,h2,fun b o N hb hr => ?_⟩
  by_cases hlt:b<nx
  · rw [ho b hlt] at hb;exact h3 b o N hb hr
  · rw [r.fresh b (by omega)] at hr;cases hr
theorem DInv.step (hE:ExtOk E) (hN:NamesOk E.P) (hcall:CallOk E call) (hyield:YieldOk E yield) (hp:PlanFor ops L L2) (hck : ∀ {H:Heap} {nx:Nat} {ob:KObj},lo≤nx→ck H=true→ck (H.put nx (some ob))=true) (v:DInv E ck lo call yield round size ops L w0 K ρ0 h0 nx0 tmF dfF hF nxF done rest fl T df H nx own ρ listed a w) (hset:Settled rest)
    {Q:Nat→Prop} (hq:Quiet K Q w H ρ) {b:Frame} {cs:List Frame} (hb:FrOk b cs round) {k:List Item} {x:DI} (hxL:x ∈ L) (hr:x.i ∈ Region.ready .any ops listed) (rs:List Nat) :
    ∃ a' w',Steps E.P (lone (fr b a (.inRegion ops (x.i :: rs) :: k)) cs w) (lone (fr b a' (.inRegion ops rs :: k)) cs w') ∧
      ∃ done' rest' fl' T' df' H' nx' own' ρ',DInv E ck lo call yield round size ops L w0 K ρ0 h0 nx0 tmF dfF hF nxF done' rest' fl' T' df' H' nx' own' ρ' (listed.setIfInBounds x.i true) a' w'∧Settled rest' ∧
        Quiet K Q w' H' ρ'∧(∀ c,Q c→w'.heap[c]?=w.heap[c]?)∧ρ.Sub ρ'∧(∀ c,c<nx→ρ c=none→H.get c=none→ρ' c=none)∧nx≤nx' ∧ ∃ u,a'.tmps=(a.put x.o.dst u).tmps:=by
  have hall:=hp.all
  have h0:=mem_ready.1 hr
  have hl:x.i<listed.size:=by
    rcases Nat.lt_or_ge x.i listed.size with h' | h'
    · exact h'
    · simp [Array.getElem?_eq_none h'] at h0
  have hioff:listed.getD x.i false=false:=by
    have:=h0.1
    simpa [hl] using this
  have hop:=di_op hp hxL
  have hself:=allOk_self hall hxL
  have hmem:x ∈ done∨x ∈ rest:=by
    have:x ∈ done ++ rest:=by rw [← v.split];exact hxL
    exact List.mem_append.1 this
  rcases hmem with hxd | hxr
  · have hmaj:x.major=false:=by
      cases hm:x.major with
      | false=>rfl
      | true=>have:=v.dl x hxd hm;rw [hioff] at this;cases this
    obtain ⟨_,hlt,hpd⟩:=v.pf x hxd hioff
    have hx:=v.operands hp hxL hr (.inl ⟨hxd,hmaj⟩)
    rcases hpd with ⟨g1,g2⟩ | ⟨g1,g2,hh,u,g3,g4,g5⟩ | ⟨g1,ob,mk,bk,g2,g3,g4,g5,g6,g7⟩
    · have hw:=v.wanted hp hxL hr g1
      have hst:=st_op_skip (P:=E.P) (b:=b) (a:=a) (k:=k) (cs:=cs) (w:=w) (ops:=ops) (i:=x.i) (rest:=rs) (by simp [hop,hw])
      rw [hop] at hst
      exact ⟨_,w,.one hst,done,rest,fl,T,df,H,nx,own,ρ,v.minor hp hxd hr hl (k:=U) v.rel (.refl ρ) v.stp (fun d hd=>⟨hlt d hd,g2 d hd⟩) relU fun _ _ _ _ h=>h,hset,hq,fun _ _=>rfl,.refl ρ,fun _ _ h _=>h,Nat.le_refl _,_,rfl⟩
    · have hw:=v.wanted hp hxL hr g1
      obtain ⟨q,e1,e2⟩:=pure_ok (v.rel.less g3) g4 hx
      have hst:=st_value (P:=E.P) (b:=b) (k:=k) (cs:=cs) (rest:=rs) hop hw (.inr fun c hc=>by rw [hc] at g4;simp [pureK] at g4) e1
      exact ⟨_,w,.one hst,done,rest,fl,T,df,H,nx,own,ρ,v.minor hp hxd hr hl (k:=u) v.rel (.refl ρ) v.stp (fun d hd=>⟨hlt d hd,g5 d hd⟩) e2 fun _ _ _ _ h=>h,hset,hq,fun _ _=>rfl,.refl ρ,fun _ _ h _=>h,Nat.le_refl _,_,rfl⟩
    · have hw:=v.wanted hp hxL hr g1
      obtain ⟨o',N,q,dr,e1,e2,e3⟩:=new_ok (P:=E.P) v.rel g2 hx
      have hst:=st_value (P:=E.P) (b:=b) (k:=k) (cs:=cs) (rest:=rs) hop hw (.inr fun c hc=>by rw [hc] at g2;simp [allocK] at g2) e1
      have hsub:ρ.Sub (ρ.add bk (w.heap.size,N)):=Ren.sub_add g4
      refine ⟨_,_,.one hst,done,rest,fl,T,df,H,nx,own,ρ.add bk (w.heap.size,N),v.minor hp hxd hr hl (k:=mk bk) ((v.rel.drew dr).land g3 g4 e2) hsub ?_ (fun d hd=>⟨hlt d hd,g7 d hd⟩) (e3 _ bk (Ren.add_self _ _ _)) ?_,hset,?_,?_,hsub,?_,Nat.le_refl _,_,rfl⟩
      · exact ⟨v.stp.sub.trans hsub,v.stp.up,fun c hc hn=>by
          obtain ⟨p1,p2⟩:=v.stp.pend c hc hn
          exact ⟨by rw [Ren.add_ne _ _ (by omega)];exact p1,p2⟩⟩
      · intro c j hc hj hn
        rw [Ren.add_ne _ _ fun e=>by subst e;rw [g6] at hc;cases hc;exact hj rfl]
        exact hn
      · intro c hc
        obtain ⟨⟨ents,clock,h1⟩,h2,h3⟩:=hq c hc
        have hlt:=hq.lt hc
        refine ⟨⟨ents,clock,by simp [Array.getElem?_push,Nat.ne_of_lt hlt,h1]⟩,h2,fun b' o N' hb' hr' => ?_⟩
        by_cases he:b'=bk
        · subst he
          rw [Ren.add_self] at hr'
          cases hr'
          omega
        · rw [Ren.add_ne _ _ he] at hr'
          exact h3 b' o N' hb' hr'
      · intro c hc
        have hlt:=hq.lt hc
        simp [Array.getElem?_push,Nat.ne_of_lt hlt]
      · intro c _ hn hg
        rw [Ren.add_ne _ _ fun e=>by subst e;rw [hg] at g3;cases g3]
        exact hn
  · cases rest with
    | nil=>simp at hxr
    | cons m r =>
      have hmm:=hset m r rfl
      have hxm:x=m:=by
        rcases List.mem_cons.1 hxr with e | hx2
        · exact e
        · have hpair:=allOk_pair hall (l1:=done ++ [m]) (l2:=r) (by rw [v.split];simp) (by simp:m ∈ done ++ [m]) hx2
          have:=v.bits hp hxL hr hself.back (hpair.chain hmm)
          have hoff:=v.rl m (by simp)
          simp only [Off] at hoff
          rw [hoff] at this;cases this
      subst hxm
      have hx:=v.operands hp hxL hr (.inr (by simp))
      have hrun:=v.run
      simp only [mkPlan,hmm,runP] at hrun
      cases hw:wantedK ops.toList x.o T with
      | none=>simp only [hw] at hrun;cases hrun
      | some q =>
        have hwant:=v.wanted hp hxL hr hw
        cases q with
        | false =>
          simp only [hw] at hrun
          cases hput:tput size T x.o.dst U with
          | none=>simp only [hput] at hrun;cases hrun
          | some T1 =>
            simp only [hput] at hrun
            cases hold:holdAll E ops.toList T1 H (floats x fl) with
            | false=>simp only [hold] at hrun;cases hrun
            | true =>
              simp only [hold] at hrun
              have hst:=st_op_skip (P:=E.P) (b:=b) (a:=a) (k:=k) (cs:=cs) (w:=w) (ops:=ops) (i:=x.i) (rest:=rs) (by simp [hop,hwant])
              rw [hop] at hst
              have hleft:Left E w0 K ρ size T H nx a x.o.dst T1 df H nx (a.put x.o.dst undef) w ρ:=⟨v.rel,.refl _ _ _,by rw [put_defers];exact v.dfs,_,_,hput,relU,rfl⟩
              obtain ⟨done',rest',fl',T',df',H',nx',own',v',hs',hup,hold'⟩:=settle hp hck _ _ _ _ _ _ _ _ (v.major hp hr hl hmm hleft hrun hold v.ckH)
              exact ⟨_,w,.one hst,done',rest',fl',T',df',H',nx',own',ρ,v',hs',hq.settle v.rel hold',fun _ _=>rfl,.refl ρ,fun _ _ h _=>h,hup,_,rfl⟩
        | true =>
          simp only [hw] at hrun
          cases hdo:doOp E call yield round size x.o T df H nx with
          | fail=>simp only [hdo] at hrun;cases hrun
          | ok T1 df1 H1 nx1 =>
            simp only [hdo] at hrun
            cases hold:ck H1 && holdAll E ops.toList T1 H1 (floats x fl) with
            | false=>simp only [hold] at hrun;cases hrun
            | true =>
              simp only [hold] at hrun
              rw [Bool.and_eq_true] at hold
              obtain ⟨a',w',ρ',hst,hleft⟩:=doOp_left hE hN hcall hyield hdo (v.rel.guard hq) hx v.dfs hb (rest:=rs) (k:=k) hop hwant
              obtain ⟨u1,u2,u3⟩:=v.rel.unguard hq hleft.rel
              have hleft':Left E w0 K ρ size T H nx a x.o.dst T1 df1 H1 nx1 a' w' ρ':=⟨u1,hleft.stp,hleft.dfs,hleft.val⟩
              obtain ⟨done',rest',fl',T',df',H',nx',own',v',hs',hup,hold'⟩:=settle hp hck _ _ _ _ _ _ _ _ (v.major hp hr hl hmm hleft' hrun hold.2 hold.1)
              obtain ⟨_,u,_,_,htm⟩:=hleft.val
              exact ⟨a',w',hst,done',rest',fl',T',df',H',nx',own',ρ',v',hs',u2.settle u1 hold',u3,hleft.stp.sub,fun c hc hn _=>(hleft.stp.pend c hc hn).1,Nat.le_trans hleft.stp.up hup,u,htm⟩
theorem first_off {listed:Array Bool} : ∀ (l:List DI),(∃ x ∈ l,Off listed x) → ∃ l1 x l2,l=l1 ++ x :: l2∧Off listed x ∧ ∀ y ∈ l1,listed.getD y.i false=true
  | [],⟨_,h,_⟩=>by simp at h
  | z :: r,h=>by
    by_cases hz:listed.getD z.i false=true
    · have h' : ∃ x ∈ r,Off listed x:=by
        obtain ⟨x,hx,ho⟩:=h
        rcases List.mem_cons.1 hx with rfl | hx
        · simp only [Off] at ho;rw [ho] at hz;cases hz
        · exact ⟨x,hx,ho⟩
      obtain ⟨l1,x,l2,e,ho,hl⟩:=first_off r h'
      exact ⟨z :: l1,x,l2,by rw [e];rfl,ho,fun y hy=>(List.mem_cons.1 hy).elim (fun e=>by subst e;exact hz) (hl y)⟩
    · exact ⟨[],z,r,rfl,Bool.eq_false_iff.2 hz,fun y hy=>by simp at hy⟩
theorem DInv.all (hp:PlanFor ops L L2) (v:DInv E ck lo call yield round size ops L w0 K ρ0 h0 nx0 tmF dfF hF nxF done rest fl T df H nx own ρ listed a w) (hr:Region.ready .any ops listed=[]) : ∀ x:DI,x ∈ L→listed.getD x.i false=true:=by
  intro x hx
  cases hc:listed.getD x.i false with
  | true=>rfl
  | false =>
    obtain ⟨l1,z,l2,e,ho,hl1⟩:=first_off (listed:=listed) _ ⟨x,hx,hc⟩
    have hall:=hp.all
    have hzL:z ∈ L:=by rw [e];simp
    have hself:=allOk_self hall hzL
    have hzi:z.i<listed.size:=by rw [v.lsz];exact (Array.getElem?_eq_some_iff.1 (di_op hp hzL)).1
    have:z.i ∈ Region.ready .any ops listed:=by
      refine mem_ready.2 ⟨?_,z.o,di_op hp hzL,fun ed hed hbind => ?_⟩
      · simp only [Off] at ho;simpa [hzi] using ho
      · have hbit:=(hp.dis z hzL).edges ed hed hbind
        obtain ⟨y,hy,hyi⟩:=hp.down z hzL ed.on hbit
        rw [e] at hy
        rcases List.mem_append.1 hy with hy1 | hy2
        · rw [← hyi];exact hl1 y hy1
        · rcases List.mem_cons.1 hy2 with rfl | hy3
          · rw [← hyi] at hbit;rw [hself.back] at hbit;cases hbit
          · have:=(allOk_pair hall (l1:=l1 ++ [z]) (l2:=l2) (by rw [e];simp) (by simp:z ∈ l1 ++ [z]) hy3).back
            rw [hyi,hbit] at this;cases this
    rw [hr] at this
    simp at this
end
end Go.Ev
namespace Go.Ev
def isIns (x:DI):Bool :=
  match x.o.op with
  | .insert _ _ _ _=>true
  | _=>false
def mapTmp:List DI→Option Tmp
  | []=>none
  | x :: r=>match x.o.op with
    | .insert _ (.tmp m) _ _=>some m
    | _=>mapTmp r
def writesTmp (m:Tmp) (x:DI):Bool :=
  match x.o.dst with
  | some d=>Nat.beq d m
  | none=>false
def notMap (m:Tmp) (mk:Nat) (x:DI):Bool :=
  match isIns x with
  | true=>false
  | false=>match writesTmp m x with
    | true=>false
    | false=>match bit x.before mk with
      | true=>false
      | false=>true
def afterMap (mk:Nat) (x:DI):Bool :=
  match isIns x with
  | true=>false
  | false=>bit x.before mk
def tailOk:List DI→List DI→Bool
  | _,[]=>true
  | pre,x :: r=>allB' (fun y=>bit x.before y.i) pre && (allB' (fun y => !bit x.before y.i) (x :: r) && tailOk (pre ++ [x]) r)
  where
  allB' (p:DI→Bool):List DI→Bool
  | []=>true
  | x :: r=>match p x with
    | true=>allB' p r
    | false=>false
noncomputable def insVal (T:PT KV) (x:DI):Option (KV × KV) :=
  match x.o.op with
  | .insert _ _ k v=>match evalK T k,evalK T v with
    | some a,some b=>some (a,b)
    | _,_=>none
  | _=>none
noncomputable def insVals (T:PT KV):List DI→Option (List (KV × KV))
  | []=>some []
  | x :: r=>match insVal T x with
    | some p=>match insVals T r with
      | some l=>some (p :: l)
      | none=>none
    | none=>none
def isTmp (m:Tmp) (x:Operand):Bool :=
  match x with
  | .tmp t=>Nat.beq t m
  | _=>false
def noGuard (x:DI):Bool :=
  match x.o.guard with
  | none=>true
  | some _=>false
def noDst (x:DI):Bool :=
  match x.o.dst with
  | none=>true
  | some _=>false
def mkOk (m:Tmp) (x:DI):Bool :=
  match x.o.op with
  | .makeMap _ none=>Nat.beq x.before 0 && (writesTmp m x && noGuard x)
  | _=>false
def insOk (m mk:Nat) (ins L:List DI) (x:DI):Bool :=
  match x.o.op with
  | .insert _ (.tmp t) k v=>Nat.beq t m && (!isTmp m k && (!isTmp m v && (noGuard x && (noDst x && (bit x.before mk && (noneOf ins && flows L))))))
  | _=>false
  where
  noneOf:List DI→Bool
  | []=>true
  | y :: r=>match bit x.before y.i with | true=>false | false=>noneOf r
  flows:List DI→Bool
  | []=>true
  | y :: r=>match readsDst x y with
    | true=>match bit x.before y.i with | true=>flows r | false=>false
    | false=>flows r
def allDI (p:DI→Bool):List DI→Bool
  | []=>true
  | x :: r=>match p x with
    | true=>allDI p r
    | false=>false
theorem allDI_iff {p:DI→Bool} {x:DI} : ∀ {l:List DI},allDI p l=true→x ∈ l→p x=true
  | y :: r,h,hx=>by
    simp only [allDI] at h
    split at h
    · rename_i hp
      rcases List.mem_cons.1 hx with rfl | hx
      · exact hp
      · exact allDI_iff h hx
    · cases h
def difI:List DI→Bool
  | []=>true
  | x :: r=>match memIdx x.i r with
    | true=>false
    | false=>difI r
def restOk (m:Tmp) (L2:List DI) (x:DI):Bool :=
  !writesTmp m x && allDI (fun y => !bit x.before y.i) L2
def mapOk (ops:List Oper) (m:Tmp) (L:List DI) (mk:DI) (ins tail:List DI):Bool :=
  allOk L && (covers (L ++ mk :: (ins ++ tail)) 0 ops && (boundOk (Nat.pow 2 (lenOps ops)) (L ++ mk :: (ins ++ tail)) && (mkOk m mk && (allDI (insOk m mk.i ins L) ins && (allDI (restOk m (mk :: (ins ++ tail))) L && (difI (mk :: ins) && (allDI (fun y => !memIdx y.i L) (mk :: ins) &&
    (tailOk (L ++ mk :: ins) tail && (difI tail && (allDI (fun y => !memIdx y.i (L ++ mk :: ins)) tail && allDI (fun x=>allDI (fun y => !bit x.before y.i) tail) (mk :: ins)))))))))))
theorem memIdx_false {i:Nat} : ∀ {l:List DI},memIdx i l=false → ∀ x ∈ l,x.i≠i
  | [],_,x,hx=>by simp at hx
  | y :: r,h,x,hx=>by
    simp only [memIdx] at h
    split at h
    · cases h
    · rename_i hb
      rcases List.mem_cons.1 hx with rfl | hx
      · intro e;rw [e] at hb;simp at hb
      · exact memIdx_false h x hx
theorem difI_iff : ∀ {l:List DI},difI l=true→(l.map (·.i)).Nodup
  | [],_=>by simp
  | x :: r,h=>by
    simp only [difI] at h
    split at h
    · cases h
    · rename_i hm
      rw [List.map_cons,List.nodup_cons]
      refine ⟨fun hmem => ?_,difI_iff h⟩
      obtain ⟨y,hy,he⟩:=List.mem_map.1 hmem
      exact memIdx_false hm y hy he
theorem writesTmp_iff {m:Tmp} {x:DI} : writesTmp m x=true ↔ x.o.dst=some m:=by
  unfold writesTmp
  split
  · rename_i d hd
    rw [hd]
    exact ⟨fun h=>by rw [Nat.eq_of_beq_eq_true h],fun h=>by cases h;simp⟩
  · rename_i hd
    rw [hd]
    simp
theorem noneOf_iff {x:DI} : ∀ {l:List DI},insOk.noneOf x l=true → ∀ y ∈ l,x.before.testBit y.i=false
  | [],_,y,hy=>by simp at hy
  | z :: r,h,y,hy=>by
    simp only [insOk.noneOf] at h
    split at h
    · cases h
    · rename_i hb
      rcases List.mem_cons.1 hy with rfl | hy
      · rw [bit_eq] at hb;exact hb
      · exact noneOf_iff h y hy
theorem flows_iff {x:DI} : ∀ {l:List DI},insOk.flows x l=true → ∀ y ∈ l,∀ d,y.o.dst=some d→d ∈ x.reads→x.before.testBit y.i=true
  | [],_,y,hy,_,_,_=>by simp at hy
  | z :: r,h,y,hy,d,hd,hr=>by
    simp only [insOk.flows] at h
    rcases List.mem_cons.1 hy with rfl | hy
    · have:readsDst x y=true:=readsDst_iff.2 ⟨d,hd,hr⟩
      rw [this] at h
      simp only at h
      split at h
      · rename_i hb;rw [bit_eq] at hb;exact hb
      · cases h
    · split at h
      · split at h
        · exact flows_iff h y hy d hd hr
        · cases h
      · exact flows_iff h y hy d hd hr
structure InsOk (m:Tmp) (mk:Nat) (ins L:List DI) (x:DI):Prop where
  op : ∃ t k v,x.o.op=.insert t (.tmp m) k v∧k≠.tmp m∧v≠.tmp m
  guard:x.o.guard=none
  dst:x.o.dst=none
  mkb:x.before.testBit mk=true
  none : ∀ y ∈ ins,x.before.testBit y.i=false
  flow : ∀ y ∈ L,∀ d,y.o.dst=some d→d ∈ x.reads→x.before.testBit y.i=true
theorem insOk_iff {m mk:Nat} {ins L:List DI} {x:DI} (h:insOk m mk ins L x=true):InsOk m mk ins L x:=by
  unfold insOk at h
  split at h
  · rename_i t t' k v hop
    simp only [Bool.and_eq_true,Bool.not_eq_true'] at h
    obtain ⟨h1,h2,h3,h4,h5,h6,h7,h8⟩:=h
    have:=Nat.eq_of_beq_eq_true h1
    subst this
    refine ⟨⟨t,k,v,hop,fun e => ?_,fun e => ?_⟩,?_,?_,?_,noneOf_iff h7,flows_iff h8⟩
    · subst e;simp [isTmp] at h2
    · subst e;simp [isTmp] at h3
    · unfold noGuard at h4;split at h4 <;> simp_all
    · unfold noDst at h5;split at h5 <;> simp_all
    · rw [← bit_eq];exact h6
  · cases h
structure MkOk (m:Tmp) (x:DI):Prop where
  op : ∃ t,x.o.op=.makeMap t none
  before:x.before=0
  dst:x.o.dst=some m
  guard:x.o.guard=none
theorem mkOk_iff {m:Tmp} {x:DI} (h:mkOk m x=true):MkOk m x:=by
  unfold mkOk at h
  split at h
  · rename_i t hop
    simp only [Bool.and_eq_true] at h
    obtain ⟨h1,h2,h3⟩:=h
    refine ⟨⟨t,hop⟩,Nat.eq_of_beq_eq_true h1,writesTmp_iff.1 h2,?_⟩
    unfold noGuard at h3;split at h3 <;> simp_all
  · cases h
structure TailOk (pre tail:List DI):Prop where
  pre : ∀ x ∈ tail,∀ y ∈ pre,x.before.testBit y.i=true
  chain : ∀ t1 x t2,tail=t1 ++ x :: t2→(∀ y ∈ t1,x.before.testBit y.i=true) ∧ ∀ y ∈ x :: t2,x.before.testBit y.i=false
theorem allB'_iff {p:DI→Bool} {x:DI} : ∀ {l:List DI},tailOk.allB' p l=true→x ∈ l→p x=true
  | [],_,hx=>by simp at hx
  | y :: r,h,hx=>by
    simp only [tailOk.allB'] at h
    split at h
    · rename_i hp
      rcases List.mem_cons.1 hx with rfl | hx
      · exact hp
      · exact allB'_iff h hx
    · cases h
theorem tailOk_iff : ∀ {tail pre:List DI},tailOk pre tail=true→TailOk pre tail
  | [],pre,_=>⟨fun x hx=>by simp at hx,fun t1 x t2 h=>by simp at h⟩
  | z :: r,pre,h=>by
    simp only [tailOk,Bool.and_eq_true] at h
    obtain ⟨h1,h2,h3⟩:=h
    have ih:=tailOk_iff h3
    refine ⟨fun x hx y hy => ?_,fun t1 x t2 he => ?_⟩
    · rcases List.mem_cons.1 hx with rfl | hx
      · have:=allB'_iff h1 hy
        rw [← bit_eq];exact this
      · exact ih.pre x hx y (by simp [hy])
    · cases t1 with
      | nil =>
        simp only [List.nil_append,List.cons.injEq] at he
        obtain ⟨rfl,rfl⟩:=he
        refine ⟨fun y hy=>by simp at hy,fun y hy => ?_⟩
        have:=allB'_iff h2 hy
        simpa [bit_eq] using this
      | cons t t1 =>
        simp only [List.cons_append,List.cons.injEq] at he
        obtain ⟨rfl,rfl⟩:=he
        obtain ⟨g1,g2⟩:=ih.chain t1 x t2 rfl
        refine ⟨fun y hy => ?_,g2⟩
        rcases List.mem_cons.1 hy with rfl | hy
        · exact ih.pre x (by simp) y (by simp)
        · exact g1 y hy
structure MapOk (ops:Array Oper) (m:Tmp) (L:List DI) (mk:DI) (ins tail:List DI):Prop where
  plan:PlanFor ops L (mk :: (ins ++ tail))
  mkk:MkOk m mk
  inss : ∀ x ∈ ins,InsOk m mk.i ins L x
  dst : ∀ x ∈ L,x.o.dst≠some m
  dif:((mk :: ins).map (·.i)).Nodup
  off : ∀ y ∈ mk :: ins,∀ x ∈ L,x.i≠y.i
  bound : ∀ x ∈ mk :: ins,∀ j,x.before.testBit j=true → ∃ y ∈ L ++ mk :: ins,y.i=j
  tok:TailOk (L ++ mk :: ins) tail
  toff : ∀ z ∈ tail,∀ x ∈ L ++ mk :: ins,x.i≠z.i
  tbound : ∀ x ∈ tail,∀ j,x.before.testBit j=true → ∃ y ∈ (L ++ mk :: ins) ++ tail,y.i=j
  tdif:(tail.map (·.i)).Nodup
theorem mapOk_iff {ops:Array Oper} {m:Tmp} {L:List DI} {mk:DI} {ins tail:List DI} (h:mapOk ops.toList m L mk ins tail=true) (hd : ∀ x ∈ L ++ mk :: (ins ++ tail),DIok ops.toList x):MapOk ops m L mk ins tail:=by
  simp only [mapOk,Bool.and_eq_true] at h
  obtain ⟨h1,h2,h3,h4,h5,h6,h7,h8,h9,h10,h11,h12⟩:=h
  have hat : ∀ i,i<ops.size → ∃ x ∈ L ++ mk :: (ins ++ tail),x.i=i:=fun i hi=>covers_iff h2 (Nat.zero_le _) (by simpa using hi)
  have hbound : ∀ x ∈ L ++ mk :: (ins ++ tail),∀ j,x.before.testBit j=true → ∃ y ∈ L ++ mk :: (ins ++ tail),y.i=j:=fun x hx j hj=>by
    have h:=boundOk_iff h3 hx
    rw [lenOps_eq] at h
    refine hat j ?_
    rcases Nat.lt_or_ge j ops.size with h1 | h1
    · exact h1
    · have:x.before<2 ^ j:=Nat.lt_of_lt_of_le h (Nat.pow_le_pow_right (by omega) (by simpa using h1))
      rw [Nat.testBit_lt_two_pow this] at hj
      cases hj
  have hrest : ∀ x ∈ L,x.o.dst≠some m ∧ ∀ y ∈ mk :: (ins ++ tail),x.before.testBit y.i=false:=fun x hx=>by
    have:=allDI_iff h6 hx
    simp only [restOk,Bool.and_eq_true,Bool.not_eq_true'] at this
    refine ⟨fun e => ?_,fun y hy => ?_⟩
    · have:=this.1
      rw [writesTmp_iff.2 e] at this;cases this
    · have:=allDI_iff this.2 hy
      simpa [bit_eq] using this
  exact {
    plan:={
      dis:=fun x hx=>hd x (by simp [hx])
      dis2:=fun x hx=>hd x (List.mem_append.2 (.inr hx))
      all:=h1
      at_:=fun i hi=>by
        obtain ⟨x,hx,he⟩:=hat i hi
        rcases List.mem_append.1 hx with hx | hx
        · exact .inl ⟨x,hx,he⟩
        · exact .inr ⟨x,hx,he⟩
      down:=fun x hx j hj=>by
        obtain ⟨y,hy,he⟩:=hbound x (by simp [hx]) j hj
        rcases List.mem_append.1 hy with hy | hy
        · exact ⟨y,hy,he⟩
        · have:=(hrest x hx).2 y hy
          rw [he,hj] at this;cases this }
    mkk:=mkOk_iff h4
    inss:=fun x hx=>insOk_iff (allDI_iff h5 hx)
    dst:=fun x hx=>(hrest x hx).1
    dif:=difI_iff h7
    off:=fun y hy x hx=>by
      have:=allDI_iff h8 hy
      simp only [Bool.not_eq_true'] at this
      exact memIdx_false this x hx
    bound:=fun x hx j hj=>by
      obtain ⟨y,hy,he⟩:=hbound x (by
        rcases List.mem_cons.1 hx with rfl | hx
        · simp
        · simp [hx]) j hj
      simp only [List.mem_append,List.mem_cons] at hy
      rcases hy with hy | rfl | hy | hy
      · exact ⟨y,by simp [hy],he⟩
      · exact ⟨y,by simp,he⟩
      · exact ⟨y,by simp [hy],he⟩
      · have:=allDI_iff (allDI_iff h12 hx) hy
        simp only [Bool.not_eq_true',bit_eq] at this
        rw [he,hj] at this;cases this
    tok:=tailOk_iff h9
    toff:=fun z hz x hx=>by
      have:=allDI_iff h11 hz
      simp only [Bool.not_eq_true'] at this
      exact memIdx_false this x hx
    tbound:=fun x hx j hj=>by
      obtain ⟨y,hy,he⟩:=hbound x (by simp [hx]) j hj
      exact ⟨y,by simpa using hy,he⟩
    tdif:=difI_iff h10 }
noncomputable def keysApart (P:Program):List DI→List (KV × KV)→Bool
  | x :: r,p :: s=>match x.o.op with
    | .insert t _ _ _=>match mapTys P t with
      | some (kt,_)=>match keyTyOk P kt p.1 with
        | true=>match apart p s with
          | true=>keysApart P r s
          | false=>false
        | false=>false
      | none=>false
    | _=>false
  | [],[]=>true
  | _,_=>false
  where
  apart (p:KV × KV):List (KV × KV)→Bool
  | []=>true
  | q :: s=>match keyEq p.1 q.1,keyEq q.1 p.1 with
    | some false,some false=>apart p s
    | _,_=>false
def opsOf:List DI→List Oper
  | []=>[]
  | x :: r=>x.o :: opsOf r
noncomputable def drawP (E:Env):DrawF:=fun call yield round size ops tm df h nx =>
  match mapTmp (disOf ops.toList) with
  | none=>match allOk (orderOf (disOf ops.toList)) && (covers (orderOf (disOf ops.toList)) 0 ops.toList && boundOk (Nat.pow 2 (lenOps ops.toList)) (orderOf (disOf ops.toList))) with
    | true=>runP E (fun _=>true) call yield round size ops.toList (mkPlan (orderOf (disOf ops.toList)) []) tm df h nx
    | false=>.fail
  | some m => match keep (writesTmp m) (disOf ops.toList) with
    | mk :: _=>match mapOk ops.toList m (orderOf (keep (notMap m mk.i) (disOf ops.toList))) mk (keep isIns (disOf ops.toList)) (keep (afterMap mk.i) (disOf ops.toList)) with
      | true => match runP E (fun h=>match h.get nx with | none=>true | some _=>false) call yield round size ops.toList (mkPlan (orderOf (keep (notMap m mk.i) (disOf ops.toList))) []) (tm.put m none) df h (Nat.succ nx) with
        | .ok T df H nx'=>match T.get m with
          | some _=>.fail
          | none=>match insVals T (keep isIns (disOf ops.toList)) with
            | none=>.fail
            | some es=>match keysApart E.P (keep isIns (disOf ops.toList)) es with
              | false=>.fail
              | true=>match tput size T (some m) (.map nx) with
                | some T=>doOps E call yield round size ops.toList (opsOf (keep (afterMap mk.i) (disOf ops.toList))) T df (H.put nx (some (.map es))) nx'
                | none=>.fail
        | .fail=>.fail
      | false=>.fail
    | []=>.fail
end Go.Ev
namespace Go.Ev
section
variable {E:Env} {ck:Heap→Bool} {lo:Nat} {call:CallF} {yield:YieldF} {round:Bool} {size:Nat} {ops:Array Oper} {L:List DI}
variable {w0:World} {K:Nat→Prop} {ρ:Ren} {h:Heap} {nx:Nat} {w:World}
theorem runP_keeps {all:List Oper} {t:Tmp} : ∀ (rest fl:List DI) {T TF:PT KV} {df dfF:List KDef} {H HF:Heap} {nx nxF:Nat},runP E ck call yield round size all (mkPlan rest fl) T df H nx=.ok TF dfF HF nxF→(∀ y ∈ rest,y.o.dst≠some t)→TF.get t=T.get t
  | [],fl,T,TF,df,dfF,H,HF,nx,nxF,hrun,_=>by simp only [mkPlan,runP] at hrun;cases hrun;rfl
  | x :: r, fl, T,TF,df,dfF,H,HF,nx,nxF,hrun,hno=>by
    have hx:=hno x (by simp)
    have hput : ∀ {T1:PT KV} {k:KV},tput size T x.o.dst k=some T1→T1.get t=T.get t:=fun h=>by rw [tput_get h,if_neg hx]
    have hr : ∀ y ∈ r,y.o.dst≠some t:=fun y hy=>hno y (by simp [hy])
    simp only [mkPlan] at hrun
    split at hrun
    · simp only [runP] at hrun
      split at hrun
      · cases hrun
      · split at hrun
        · rename_i T1 h1
          split at hrun
          · exact (runP_keeps r _ hrun hr).trans (hput h1)
          · cases hrun
        · cases hrun
      · split at hrun
        · rename_i T1 df1 H1 nx1 hdo
          split at hrun
          · refine (runP_keeps r _ hrun hr).trans ?_
            unfold doOp at hdo
            split at hdo
            · cases hdo
            · split at hdo
              · rename_i h1;cases hdo;exact hput h1
              · cases hdo
            · split at hdo
              · rename_i h1;cases hdo;exact hput h1
              · cases hdo
            · split at hdo
              · cases hdo
              · split at hdo
                · rename_i h1;cases hdo;exact hput h1
                · cases hdo
            · split at hdo
              · cases hdo
              · split at hdo
                · rename_i h1;cases hdo;exact hput h1
                · cases hdo
            · split at hdo
              · split at hdo
                · rename_i h1;cases hdo;exact hput h1
                · cases hdo
              · cases hdo
            · split at hdo
              · split at hdo
                · rename_i h1;cases hdo;exact hput h1
                · cases hdo
              · cases hdo
          · cases hrun
        · cases hrun
    · simp only [runP] at hrun
      split at hrun
      · rename_i T1 df1 H1 nx1 hdo
        refine (runP_keeps r _ hrun hr).trans ?_
        unfold doMinor at hdo
        split at hdo
        · cases hdo
        · split at hdo
          · rename_i h1;cases hdo;exact hput h1
          · cases hdo
        · split at hdo
          · split at hdo
            · rename_i h1;cases hdo;exact hput h1
            · cases hdo
          · split at hdo
            · split at hdo
              · rename_i h1;cases hdo;exact hput h1
              · cases hdo
            · cases hdo
      · cases hrun
theorem RelE.perm {es es2:List (KV × KV)} (hp:es.Perm es2) : ∀ {l:List MapEntry},RelE ρ es l → ∃ l2,l2.Perm l∧RelE ρ es2 l2:=by
  induction hp with
  | nil=>intro l h;exact ⟨l,.refl _,h⟩
  | cons x _ ih =>
    intro l h
    obtain ⟨k,v⟩:=x
    simp only [RelE] at h
    obtain ⟨e,s,rfl,h1,h2,h3⟩:=h
    obtain ⟨s2,g1,g2⟩:=ih h3
    exact ⟨e :: s2,g1.cons e,by simp only [RelE];exact ⟨e,s2,rfl,h1,h2,g2⟩⟩
  | swap x y r =>
    intro l h
    obtain ⟨k,v⟩:=x
    obtain ⟨k',v'⟩:=y
    simp only [RelE] at h
    obtain ⟨e,s,rfl,h1,h2,e',s',rfl,h3,h4,h5⟩:=h
    exact ⟨e' :: e :: s',.swap _ _ _,by simp only [RelE];exact ⟨e',_,rfl,h3,h4,e,s',rfl,h1,h2,h5⟩⟩
  | trans _ _ ih1 ih2 =>
    intro l h
    obtain ⟨l2,g1,g2⟩:=ih1 h
    obtain ⟨l3,g3,g4⟩:=ih2 g2
    exact ⟨l3,g3.trans g1,g4⟩
theorem RelO.perm {es es2:List (KV × KV)} {N:Nat} {o:Obj} (hp:es.Perm es2) (h:RelO ρ N (.map es) o):RelO ρ N (.map es2) o:=by
  obtain ⟨ents,clock,h1,⟨hk1,s,hk2⟩,l,h2,h3⟩:=h
  obtain ⟨l2,g1,g2⟩:=h3.perm hp
  exact ⟨ents,clock,h1,⟨(hp.map _).nodup_iff.1 hk1,s,fun e he=>hk2 e (hp.mem_iff.2 he)⟩,l2,g1.trans h2,g2⟩
theorem Rel.fill (r:Rel w0 K ρ h nx w) {b c N:Nat} {o:KObj} {o':Obj} (hr:ρ b=some (c,N)) (hc:w.heap[c]?=some o') (ho:RelO ρ N o o') (hk:¬ K c) (hno : ∀ b' o N,h.get b'=some o→ρ b'=some (c,N)→False) :
    Rel w0 K ρ (h.put b (some o)) nx w where
  img b1 o1 c1 N1 h1 h2:=by
    by_cases he:b1=b
    · subst he
      rw [hr] at h2;cases h2
      rw [PT.get_put_eq] at h1;cases h1
      exact ⟨o',hc,ho,fun _=>hk⟩
    · rw [PT.get_put_ne _ _ _ _ he] at h1
      exact r.img b1 o1 c1 N1 h1 h2
  low b1 o1 h1:=by
    by_cases he:b1=b
    · subst he
      rcases Nat.lt_or_ge b1 nx with h3 | h3
      · exact h3
      · rw [r.fresh b1 h3] at hr;cases hr
    · rw [PT.get_put_ne _ _ _ _ he] at h1;exact r.low b1 o1 h1
  fresh:=r.fresh
  inj b1 b2 o1 o2 c1 N1 N2 h1 h2 h3 h4:=by
    by_cases he:b1=b <;> by_cases he':b2=b
    · omega
    · subst he
      rw [PT.get_put_ne _ _ _ _ he'] at h2
      rw [hr] at h3;cases h3
      exact (hno b2 o2 N2 h2 h4).elim
    · subst he'
      rw [PT.get_put_ne _ _ _ _ he] at h1
      rw [hr] at h4;cases h4
      exact (hno b1 o1 N1 h1 h3).elim
    · rw [PT.get_put_ne _ _ _ _ he] at h1
      rw [PT.get_put_ne _ _ _ _ he'] at h2
      exact r.inj b1 b2 o1 o2 c1 N1 N2 h1 h2 h3 h4
  kept:=r.kept
  grown:=r.grown
  os:=r.os
  output:=r.output
  glob:=r.glob
theorem Rel.come (r:Rel w0 K ρ h nx w) {b N:Nat} (o':Obj) (hb:b<nx) (hn:ρ b=none) (hg:h.get b=none):Rel w0 K (ρ.add b (w.heap.size,N)) h nx { w with heap:=w.heap.push o' } where
  img b1 o1 c M h1 hr:=by
    have he:b1≠b:=fun e=>by subst e;rw [hg] at h1;cases h1
    rw [Ren.add_ne _ _ he] at hr
    obtain ⟨o2,h2,h3,h4⟩:=r.img b1 o1 c M h1 hr
    have hlt:=(Array.getElem?_eq_some_iff.1 h2).1
    exact ⟨o2,by simp [Array.getElem?_push,Nat.ne_of_lt hlt,h2],h3.mono (Ren.sub_add hn),h4⟩
  low:=r.low
  fresh b1 h1:=by rw [Ren.add_ne _ _ (by omega)];exact r.fresh b1 h1
  inj b1 b2 o1 o2 c N1 N2 h1 h2 h3 h4:=by
    have he:b1≠b:=fun e=>by subst e;rw [hg] at h1;cases h1
    have he':b2≠b:=fun e=>by subst e;rw [hg] at h2;cases h2
    rw [Ren.add_ne _ _ he] at h3
    rw [Ren.add_ne _ _ he'] at h4
    exact r.inj b1 b2 _ _ c N1 N2 h1 h2 h3 h4
  kept c hk:=by
    obtain ⟨h1,h2⟩:=r.kept c hk
    refine ⟨h1,?_⟩
    have:=r.grown
    simp [Array.getElem?_push,show c≠w.heap.size by omega,h2]
  grown:=by have:=r.grown;simp;omega
  os:=r.os
  output:=r.output
  glob g hg':=by obtain ⟨M,h1⟩:=r.glob g hg';exact ⟨M,Ren.sub_add hn _ _ h1⟩
theorem filter_set {x:DI} {listed:Array Bool} (hl:x.i<listed.size) (hoff:listed.getD x.i false=false) : ∀ {l:List DI},(l.map (·.i)).Nodup→x ∈ l →
    (l.filter fun z=>(listed.setIfInBounds x.i true).getD z.i false).Perm (x :: l.filter fun z=>listed.getD z.i false)
  | [],_,hx=>by simp at hx
  | y :: r,hn,hx=>by
    simp only [List.map_cons,List.nodup_cons] at hn
    have same : ∀ {l:List DI},(∀ z ∈ l,z.i≠x.i)→(l.filter fun z=>(listed.setIfInBounds x.i true).getD z.i false)=l.filter fun z=>listed.getD z.i false:=fun {l} h =>
      List.filter_congr fun z hz=>by rw [getD_set_ne false (fun e=>h z hz e.symm)]
    by_cases he:y.i=x.i
    · have hr : ∀ z ∈ r,z.i≠x.i:=fun z hz e=>hn.1 (List.mem_map.2 ⟨z,hz,e.trans he.symm⟩)
      have hxy:x=y:=by
        rcases List.mem_cons.1 hx with e | h
        · exact e
        · exact absurd rfl (hr x h)
      subst hxy
      rw [List.filter_cons,List.filter_cons,same hr]
      rw [if_pos (getD_set_self hl false),if_neg (by rw [hoff];simp)]
    · have hxr:x ∈ r:=by
        rcases List.mem_cons.1 hx with e | h
        · exact absurd (by rw [e]) he
        · exact h
      have ih:=filter_set hl hoff hn.2 hxr
      rw [List.filter_cons,List.filter_cons,getD_set_ne false (fun e=>he e.symm)]
      split
      · exact (ih.cons y).trans (.swap _ _ _)
      · exact ih
theorem filter_same {listed:Array Bool} {i:Nat} {l:List DI} (h : ∀ z ∈ l,z.i≠i):(l.filter fun z=>(listed.setIfInBounds i true).getD z.i false)=l.filter fun z=>listed.getD z.i false :=
  List.filter_congr fun z hz=>by rw [getD_set_ne false (fun e=>h z hz e.symm)]
theorem insVals_map {T:PT KV} : ∀ {l:List DI} {es:List (KV × KV)},insVals T l=some es→l.filterMap (insVal T)=es ∧ ∀ x ∈ l,∃ p,insVal T x=some p
  | [],es,h=>by simp only [insVals] at h;cases h;simp
  | x :: r,es,h=>by
    simp only [insVals] at h
    split at h
    · rename_i p hp
      split at h
      · rename_i l hl
        cases h
        obtain ⟨h1,h2⟩:=insVals_map hl
        refine ⟨by rw [List.filterMap_cons,hp];simp [h1],fun y hy => ?_⟩
        rcases List.mem_cons.1 hy with rfl | hy
        · exact ⟨p,hp⟩
        · exact h2 y hy
      · cases h
    · cases h
theorem apart_iff {p:KV × KV} : ∀ {l:List (KV × KV)},keysApart.apart p l=true → ∀ q ∈ l,keyEq p.1 q.1=some false∧keyEq q.1 p.1=some false
  | [],_,q,hq=>by simp at hq
  | a :: r,h,q,hq=>by
    simp only [keysApart.apart] at h
    split at h
    · rename_i h1 h2
      rcases List.mem_cons.1 hq with rfl | hq
      · exact ⟨h1,h2⟩
      · exact apart_iff h q hq
    · cases h
theorem keysApart_iff {P:Program} {T:PT KV} : ∀ {l:List DI} {es:List (KV × KV)},insVals T l=some es→keysApart P l es=true→(l.map (·.i)).Nodup →
    (∀ x ∈ l,∀ t m k v,x.o.op=.insert t m k v → ∀ p,insVal T x=some p → ∃ kt et,mapTys P t=some (kt,et)∧keyTyOk P kt p.1=true) ∧
    ∀ x ∈ l,∀ y ∈ l,x.i≠y.i → ∀ p q,insVal T x=some p→insVal T y=some q→keyEq p.1 q.1=some false
  | [],es,_,_,_=>⟨fun x hx=>by simp at hx,fun x hx=>by simp at hx⟩
  | x :: r, es, h,hk,hn=>by
    simp only [insVals] at h
    split at h
    · rename_i p hp
      split at h
      · rename_i l hl
        cases h
        simp only [keysApart] at hk
        split at hk
        · rename_i t m' k' v' hop
          split at hk
          · rename_i kt et hty
            split at hk
            · rename_i hkt
              split at hk
              · rename_i hap
                simp only [List.map_cons,List.nodup_cons] at hn
                obtain ⟨ih1,ih2⟩:=keysApart_iff hl hk hn.2
                have hmem : ∀ y ∈ r,∀ q,insVal T y=some q→q ∈ l:=fun y hy q hq=>by
                  rw [← (insVals_map hl).1];exact List.mem_filterMap.2 ⟨y,hy,hq⟩
                refine ⟨fun y hy t' m k v hop' p' hp' => ?_,fun y hy z hz hne p' q' hp' hq' => ?_⟩
                · rcases List.mem_cons.1 hy with rfl | hy
                  · rw [hop] at hop';cases hop'
                    rw [hp] at hp';cases hp'
                    exact ⟨kt,et,hty,hkt⟩
                  · exact ih1 y hy t' m k v hop' p' hp'
                · rcases List.mem_cons.1 hy with rfl | hy1 <;> rcases List.mem_cons.1 hz with rfl | hz1
                  · exact absurd rfl hne
                  · rw [hp] at hp';cases hp'
                    exact (apart_iff hap q' (hmem z hz1 q' hq')).1
                  · rw [hp] at hq';cases hq'
                    exact (apart_iff hap p' (hmem y hy1 p' hp')).2
                  · exact ih2 y hy1 z hz1 hne p' q' hp' hq'
              · cases hk
            · cases hk
          · cases hk
        · cases hk
      · cases h
    · cases h
theorem putK_fresh {k v:KV} : ∀ {es:List (KV × KV)},(∀ x ∈ es,keyEq k x.1=some false)→putK k v es=some (es ++ [(k,v)])
  | [],_=>rfl
  | (a,u) :: r,h=>by
    have h0:=h (a,u) (by simp)
    simp only at h0
    simp only [putK,h0,putK_fresh (es:=r) fun x hx=>h x (by simp [hx]),List.cons_append]
end
end Go.Ev
namespace Go.Ev
section
variable {E:Env} {ck:Heap→Bool} {lo:Nat} {call:CallF} {yield:YieldF} {round:Bool} {size:Nat} {ops:Array Oper} {L L2:List DI}
variable {w0:World} {K:Nat→Prop} {ρ0:Ren} {h0:Heap} {nx0:Nat}
variable {tmF:PT KV} {dfF:List KDef} {hF:Heap} {nxF:Nat}
variable {done rest fl:List DI} {T:PT KV} {df:List KDef} {H:Heap} {nx:Nat} {own:Nat→Option Nat} {ρ:Ren} {listed:Array Bool} {a:Act} {w:World}
theorem DInv.other (v:DInv E ck lo call yield round size ops L w0 K ρ0 h0 nx0 tmF dfF hF nxF done rest fl T df H nx own ρ listed a w) {i:Nat} (hx : ∀ y ∈ L,y.i≠i) (hr:i ∈ Region.ready .any ops listed)
    {ρ':Ren} {a':Act} {w':World} (hrel:Rel w0 K ρ' H nx w') (hsub:ρ.Sub ρ') (hstp:Stp ρ0 h0 nx0 ρ' H nx) (hdf:a'.defers=a.defers) (hsz:a'.tmps.size=a.tmps.size) (htm : ∀ t k,T.get t=some k→a'.tmps[t]?=a.tmps[t]?)
    (hpd : ∀ b o,H.get b=some o→ρ b=none→ρ' b=none):DInv E ck lo call yield round size ops L w0 K ρ0 h0 nx0 tmF dfF hF nxF done rest fl T df H nx own ρ' (listed.setIfInBounds i true) a' w' where
  split:=v.split
  run:=v.run
  dl y hy hm:=getD_set_true (v.dl y hy hm)
  rl y hy:=by
    have hne:=hx y (by rw [v.split];simp [hy])
    show _=_
    rw [getD_set_ne false (fun e=>hne e.symm)];exact v.rl y hy
  pf z hz hoff:=by
    have hne:=hx z (v.inL hz)
    have hoff':Off listed z:=by simpa only [Off,getD_set_ne false (fun e=>hne (Eq.symm e))] using hoff
    obtain ⟨h1,hlt,h2⟩:=v.pf z hz hoff'
    refine ⟨h1,hlt,?_⟩
    rcases h2 with h2 | h2 | ⟨g1,ob,mk,b,g2,g3,g4,g5,g6,g7⟩
    · exact .inl h2
    · exact .inr (.inl h2)
    · exact .inr (.inr ⟨g1,ob,mk,b,g2,g3,hpd b ob g3 g4,g5,g6,g7⟩)
  rel:=hrel
  stp:=hstp
  dfs:=by rw [hdf];exact v.dfs.mono hsub
  size:=hsz.trans v.size
  tms t q hq hno:=by
    obtain ⟨u,h1,h2⟩:=v.tms t q hq fun z hz hoff=>by
      have hne:=hx z (v.inL hz)
      refine hno z hz ?_
      show _=_
      rw [getD_set_ne false (fun e=>hne e.symm)];exact hoff
    exact ⟨u,(htm t q hq).trans h1,RelV.mono hsub _ _ h2⟩
  closed:=v.closed.step hr
  lsz:=by simpa using v.lsz
  ckH:=v.ckH
  lo_le:=v.lo_le
structure MInv (K:Nat→Prop) (bm:Nat) (dm:Tmp) (mk:DI) (ins:List DI) (TF:PT KV) (ρ:Ren) (H:Heap) (listed:Array Bool) (a:Act) (w:World):Prop where
  off:listed.getD mk.i false=false→ρ bm=none
  on:listed.getD mk.i false=true → ∃ c N es obj,ρ bm=some (c,N)∧w.heap[c]?=some obj∧RelO ρ N (.map es) obj∧a.tmps[dm]?=some (.map (some c))∧Quiet K (fun c'=>c'=c) w H ρ ∧
    es.Perm ((ins.filter fun z=>listed.getD z.i false).filterMap (insVal TF))
noncomputable def ckAt (bm:Nat) (h:Heap):Bool:=match h.get bm with | none=>true | some _=>false
theorem ckAt_iff {bm:Nat} {h:Heap} : ckAt bm h=true ↔ h.get bm=none:=by
  unfold ckAt
  cases h.get bm <;> simp
theorem DInv.stepM {bm:Nat} {dm:Tmp} {mk:DI} {ins tail:List DI} (hE:ExtOk E) (hN:NamesOk E.P) (hcall:CallOk E call) (hyield:YieldOk E yield) (m:MapOk ops dm L mk ins tail)
    (v:DInv E (ckAt bm) (bm+1) call yield round size ops L w0 K ρ0 h0 bm tmF dfF hF nxF done rest fl T df H nx own ρ listed a w) (hset:Settled rest) (mi:MInv K bm dm mk ins tmF ρ H listed a w)
    (hdm:dm<size) (hTF:tmF.get dm=none) {esF:List (KV × KV)} (hes:insVals tmF ins=some esF) (hka:keysApart E.P ins esF=true)
    {b:Frame} {cs:List Frame} (hb:FrOk b cs round) {k:List Item} {i:Nat} (hr:i ∈ Region.ready .any ops listed) (hnt : ∀ z ∈ tail,z.i≠i) (rs:List Nat) :
    ∃ a' w',Steps E.P (lone (fr b a (.inRegion ops (i :: rs) :: k)) cs w) (lone (fr b a' (.inRegion ops rs :: k)) cs w') ∧
      ∃ done' rest' fl' T' df' H' nx' own' ρ',DInv E (ckAt bm) (bm+1) call yield round size ops L w0 K ρ0 h0 bm tmF dfF hF nxF done' rest' fl' T' df' H' nx' own' ρ' (listed.setIfInBounds i true) a' w'∧Settled rest' ∧
        MInv K bm dm mk ins tmF ρ' H' (listed.setIfInBounds i true) a' w':=by
  have hHb:H.get bm=none:=ckAt_iff.1 v.ckH
  have hbnx:bm<nx:=v.lo_le
  have h0:=mem_ready.1 hr
  have hl:i<listed.size:=by
    rcases Nat.lt_or_ge i listed.size with h' | h'
    · exact h'
    · simp [Array.getElem?_eq_none h'] at h0
  have hioff:listed.getD i false=false:=by
    have:=h0.1
    simpa [hl] using this
  have hdif:=m.dif
  simp only [List.map_cons,List.nodup_cons] at hdif
  have hTdm : ∀ t q,T.get t=some q→t≠dm:=fun t q hq e=>by
    subst e
    have:=runP_keeps (t:=t) rest fl v.run fun y hy=>m.dst y (by rw [v.split];simp [hy])
    rw [hTF,hq] at this
    cases this
  rcases m.plan.at_ i (by rw [← v.lsz];exact hl) with ⟨x,hxL,rfl⟩ | ⟨x,hx2,rfl⟩
  ·
    have hnmk:x.i≠mk.i:=m.off mk (by simp) x hxL
    have hnins : ∀ z ∈ ins,z.i≠x.i:=fun z hz e=>m.off z (by simp [hz]) x hxL e.symm
    have hmk:(listed.setIfInBounds x.i true).getD mk.i false=listed.getD mk.i false:=getD_set_ne false hnmk
    have hck : ∀ {H:Heap} {nx:Nat} {ob:KObj},bm+1≤nx→ckAt bm H=true→ckAt bm (H.put nx (some ob))=true:=fun h1 h2=>by
      rw [ckAt_iff] at h2 ⊢
      rw [PT.get_put_ne _ _ _ _ (by omega)];exact h2
    cases hon:listed.getD mk.i false with
    | false =>
      obtain ⟨a',w',hst,done',rest',fl',T',df',H',nx',own',ρ',v',hs',_,_,_,hpend,_,u,htm⟩:=v.step (Q:=fun _=>False) hE hN hcall hyield m.plan hck hset (fun c hc=>hc.elim) hb (k:=k) hxL hr rs
      refine ⟨a',w',hst,done',rest',fl',T',df',H',nx',own',ρ',v',hs',fun _=>hpend bm hbnx (mi.off hon) hHb,fun h => ?_⟩
      rw [hmk,hon] at h;cases h
    | true =>
      obtain ⟨c,N,es,obj,h1,h2,h3,h4,h5,h6⟩:=mi.on hon
      obtain ⟨a',w',hst,done',rest',fl',T',df',H',nx',own',ρ',v',hs',hq',hsame,hsub,_,_,u,htm⟩:=v.step (Q:=fun c'=>c'=c) hE hN hcall hyield m.plan hck hset h5 hb (k:=k) hxL hr rs
      refine ⟨a',w',hst,done',rest',fl',T',df',H',nx',own',ρ',v',hs',fun h => ?_,fun _=>⟨c,N,es,obj,hsub _ _ h1,(hsame c rfl).trans h2,h3.mono hsub,?_,hq',?_⟩⟩
      · rw [hmk,hon] at h;cases h
      · rw [htm,put_get,if_neg (m.dst x hxL)];exact h4
      · rw [filter_same hnins];exact h6
  · have hx3:x ∈ mk :: ins:=by
      rcases List.mem_cons.1 hx2 with rfl | h
      · simp
      · rcases List.mem_append.1 h with h | h
        · simp [h]
        · exact absurd rfl (hnt x h)
    have hnL : ∀ y ∈ L,y.i≠x.i:=fun y hy=>m.off x hx3 y hy
    have hDI:=m.plan.dis2 x hx2
    have hop:ops[x.i]?=some x.o:=by simpa using hDI.op
    have hbits:x.before.testBit x.i=false → ∀ j,x.before.testBit j=true→listed.getD j false=true:=fun hself j hj=>by
      have hne:x.i≠j:=fun e=>by subst e;rw [hself] at hj;cases hj
      have:=hDI.closed (listed.setIfInBounds x.i true) (by simpa using v.closed.step hr) (getD_set_self hl false) j hj
      rwa [getD_set_ne false hne] at this
    rcases List.mem_cons.1 hx2 with rfl | hxt
    ·
      have hmk:=m.mkk
      obtain ⟨t,hopt⟩:=hmk.op
      have hw:Region.wanted x.o (yielded ops a.tmps)=true:=by simp [Region.wanted,hmk.guard]
      have hal:allocK E.P T x.o.op=some (.map [],fun b=>.map b):=by rw [hopt];rfl
      obtain ⟨o',N,u,dr,e1,e2,e3⟩:=new_ok (P:=E.P) v.rel (ev:=a.eval) hal (by rw [hopt];intro y hy;simp [Op.operands] at hy)
      have hst:=st_value (P:=E.P) (b:=b) (k:=k) (cs:=cs) (rest:=rs) hop hw (.inr fun c hc=>by rw [hc] at hopt;cases hopt) e1
      have hn:=mi.off hioff
      have hsub:ρ.Sub (ρ.add bm (w.heap.size,N)):=Ren.sub_add hn
      have hrel:=(v.rel.drew dr).come o' hbnx hn hHb (N:=N)
      have hu:=e3 _ bm (Ren.add_self ρ bm (w.heap.size,N))
      simp only [RelV] at hu
      obtain ⟨c1,N1,hc1,rfl⟩:=hu
      rw [Ren.add_self] at hc1
      cases hc1
      refine ⟨_,_,.one hst,done,rest,fl,T,df,H,nx,own,ρ.add bm (w.heap.size,N),?_,hset,?_,?_⟩
      · refine v.other hnL hr hrel hsub ⟨v.stp.sub.trans hsub,v.stp.up,fun c hc hnn => ?_⟩ (put_defers _ _ _) (put_size _ _ _) (fun t' q hq => ?_) fun b' o hb' hn' => ?_
        · obtain ⟨p1,p2⟩:=v.stp.pend c hc hnn
          exact ⟨by rw [Ren.add_ne _ _ (by omega)];exact p1,p2⟩
        · rw [put_get,hmk.dst,if_neg (by simpa using fun e=>hTdm t' q hq e.symm)]
        · rw [Ren.add_ne _ _ fun e=>by subst e;rw [hHb] at hb';cases hb'];exact hn'
      · intro h
        rw [getD_set_self hl false] at h;cases h
      · intro _
        refine ⟨w.heap.size,N,[],o',Ren.add_self _ _ _,by simp,e2.mono hsub,?_,?_,?_⟩
        · rw [put_get,hmk.dst,if_pos rfl,if_pos (by rw [v.size];exact hdm)]
        · intro c hc
          subst hc
          obtain ⟨ents,clock,ho',_⟩:=e2
          refine ⟨⟨ents,clock,by simp [ho']⟩,v.rel.notK,fun b' o N' hb' hr' => ?_⟩
          rw [Ren.add_ne _ _ fun e=>by subst e;rw [hHb] at hb';cases hb'] at hr'
          have:=v.rel.lt hb' hr'
          omega
        · have hnone:(ins.filter fun z=>(listed.setIfInBounds x.i true).getD z.i false)=[]:=by
            rw [filter_same fun z hz e=>hdif.1 (List.mem_map.2 ⟨z,hz,e⟩)]
            rw [List.filter_eq_nil_iff]
            intro z hz hon
            have:=(m.plan.dis2 z (by simp [hz])).closed listed (by simpa using v.closed) hon x.i (m.inss z hz).mkb
            rw [hioff] at this;cases this
          rw [hnone]
          exact .refl _
    ·
      have hxi:x ∈ ins:=by
        rcases List.mem_append.1 hxt with h | h
        · exact h
        · exact absurd rfl (hnt x h)
      have hins:=m.inss x hxi
      obtain ⟨t,kx,vx,hopt,hk1,hv1⟩:=hins.op
      have hself:x.before.testBit x.i=false:=hins.none x hxi
      have hw:Region.wanted x.o (yielded ops a.tmps)=true:=by simp [Region.wanted,hins.guard]
      have hon:=hbits hself mk.i hins.mkb
      obtain ⟨c,N,es,obj,h1,h2,h3,h4,h5,h6⟩:=mi.on hon
      obtain ⟨_,hq1,hq2⟩:=h5 c rfl
      obtain ⟨p,hp⟩:=(insVals_map hes).2 x hxi
      obtain ⟨ka1,ka2⟩:=keysApart_iff hes hka hdif.2
      obtain ⟨kt,et,hty,hkt⟩:=ka1 x hxi t _ kx vx hopt p hp
      have hpv:=hp
      simp only [insVal,hopt] at hpv
      cases hek:evalK tmF kx with
      | none=>simp only [hek] at hpv;cases hpv
      | some kk =>
        simp only [hek] at hpv
        cases hev:evalK tmF vx with
        | none=>simp only [hev] at hpv;cases hpv
        | some vv =>
          simp only [hev] at hpv
          cases hpv
          simp only at hkt
          have hreads : ∀ t',Operand.tmp t'=kx∨Operand.tmp t'=vx→t' ∈ x.reads:=fun t' ht'=>by
            rw [hDI.reads,tmpsOf_iff,hopt]
            rcases ht' with e | e <;> simp [Op.operands,← e]
          have hwr : ∀ t',t' ∈ x.reads → ∀ y ∈ L,y.o.dst=some t'→listed.getD y.i false=true:=fun t' ht' y hy hd=>hbits hself y.i (hins.flow y hy t' hd ht')
          have hsame : ∀ t',t' ∈ x.reads→tmF.get t'=T.get t':=fun t' ht'=>runP_keeps rest fl v.run fun y hy hd=>by
            have h1:=hwr t' ht' y (by rw [v.split];simp [hy]) hd
            have h2:=v.rl y hy
            simp only [Off] at h2
            rw [h2] at h1;cases h1
          have hev2 : ∀ y q,(y=kx∨y=vx)→evalK tmF y=some q→RelV ρ q (a.eval y):=fun y q hy hq=>by
            refine relx_of (tm:=tmF) v.rel (l:=[y]) (fun t' k' ht' hk' => ?_) y (by simp) q hq
            simp only [List.mem_singleton] at ht'
            have htr:=hreads t' (by rw [ht'];exact hy)
            rw [hsame t' htr] at hk'
            refine v.tms t' k' hk' fun z hz hoff hd => ?_
            have:=hwr t' htr z (v.inL hz) hd
            simp only [Off] at hoff
            rw [hoff] at this;cases this
          have hrk:=hev2 kx kk (.inl rfl) hek
          have hrv:=hev2 vx vv (.inr rfl) hev
          have hevm:a.eval (.tmp dm)=.map (some c):=by simp [Act.eval,h4]
          have r1:Rel w0 K ρ (H.put bm (some (.map es))) nx w:=v.rel.fill h1 h2 h3 hq1 fun b' o N' hb' hr'=>hq2 b' o N' hb' hr'
          have hfresh : ∀ e ∈ es,keyEq kk e.1=some false:=fun e he=>by
            have hmem:=h6.mem_iff.1 he
            obtain ⟨z,hz,hzv⟩:=List.mem_filterMap.1 hmem
            obtain ⟨hz1,hz2⟩:=List.mem_filter.1 hz
            refine ka2 x hxi z hz1 (fun e => ?_) _ _ hp hzv
            rw [← e,hioff] at hz2;cases hz2
          have hup:mapUpdateK E.P (H.put bm (some (.map es))) t (.map bm) kk vv=some ((H.put bm (some (.map es))).put bm (some (.map (es ++ [(kk,vv)])))):=by
            simp only [mapUpdateK,hty,hkt,PT.get_put_eq,putK_fresh hfresh]
          obtain ⟨w',e1,r2,_⟩:=mapUpdate_ok (vm:=.map (some c)) r1 hup (by simp only [RelV];exact ⟨c,N,h1,rfl⟩) hrk hrv
          have hrun:(execOp a.eval x.o).run E.P w=.ok .skip w':=by
            have gen : ∀ o:Oper,o.op=.insert t (.tmp dm) kx vx→execOp a.eval o=(do Instr.mapUpdate t (a.eval (.tmp dm)) (a.eval kx) (a.eval vx);pure .skip):=by
              rintro ⟨dst,op,type,pos,after,guard⟩ h
              simp only at h
              subst h
              rfl
            rw [gen _ hopt,hevm]
            simp [e1]
          have hst:=st_skipped (P:=E.P) (b:=b) (k:=k) (cs:=cs) (rest:=rs) hop hw (.inr fun c hc=>by rw [hc] at hopt;cases hopt) hrun
          obtain ⟨o2,g1,g2,_⟩:=r2.img bm _ c N (PT.get_put_eq _ _ _) h1
          have hrel:Rel w0 K ρ H nx w':=r2.less fun b' o hb'=>by
            have hne:b'≠bm:=fun e=>by subst e;rw [hHb] at hb';cases hb'
            rw [PT.get_put_ne _ _ _ _ hne,PT.get_put_ne _ _ _ _ hne];exact hb'
          have hput : ∀ t',(a.put x.o.dst undef).tmps[t']?=a.tmps[t']?:=fun t'=>by rw [put_get,if_neg (by rw [hins.dst];simp)]
          refine ⟨_,w',.one hst,done,rest,fl,T,df,H,nx,own,ρ,?_,hset,?_,?_⟩
          · exact v.other hnL hr hrel (.refl ρ) v.stp (put_defers _ _ _) (put_size _ _ _) (fun t' q _=>hput t') fun _ _ _ h=>h
          · intro h
            have hne:x.i≠mk.i:=fun e=>hdif.1 (List.mem_map.2 ⟨x,hxi,e⟩)
            rw [getD_set_ne false hne,hon] at h;cases h
          · intro _
            refine ⟨c,N,es ++ [(kk,vv)],o2,h1,g1,g2,(hput dm).trans h4,?_,?_⟩
            · intro c' hc'
              subst hc'
              obtain ⟨ents,clock,ho',_⟩:=g2
              exact ⟨⟨ents,clock,by rw [g1,ho']⟩,hq1,hq2⟩
            · refine (List.perm_append_comm.trans ?_).trans ((filter_set hl hioff hdif.2 hxi).filterMap _).symm
              rw [List.filterMap_cons,hp]
              exact (h6.cons _)
end
section
variable {E:Env} {call:CallF} {yield:YieldF} {round:Bool} {size:Nat} {ops:Array Oper} {L:List DI}
variable {w0:World} {K:Nat→Prop} {ρ0:Ren} {h0:Heap}
variable {tmF:PT KV} {dfF:List KDef} {hF:Heap} {nxF:Nat}
variable {done rest fl:List DI} {T:PT KV} {df:List KDef} {H:Heap} {nx:Nat} {own:Nat→Option Nat} {ρ:Ren} {listed:Array Bool} {a:Act} {w:World}
theorem DInv.finish {bm:Nat} {dm:Tmp} {mk:DI} {ins:List DI}
    (v:DInv E (ckAt bm) (bm+1) call yield round size ops L w0 K ρ0 h0 bm tmF dfF hF nxF done rest fl T df H nx own ρ listed a w) (mi:MInv K bm dm mk ins tmF ρ H listed a w)
    {esF:List (KV × KV)} (hes:insVals tmF ins=some esF) {T2:PT KV} (hput:tput size tmF (some dm) (.map bm)=some T2) (hall : ∀ y ∈ L ++ mk :: ins,listed.getD y.i false=true) :
    Mid E w0 K ρ size T2 dfF (hF.put bm (some (.map esF))) nxF a w∧Stp ρ0 h0 bm ρ (hF.put bm (some (.map esF))) nxF:=by
  have hrest:rest=[]:=by
    cases rest with
    | nil=>rfl
    | cons x r =>
      have h1:=v.rl x (by simp)
      have h2:=hall x (by rw [v.split];simp)
      simp only [Off] at h1
      rw [h1] at h2;cases h2
  subst hrest
  have hrun':=v.run
  simp only [mkPlan,runP] at hrun'
  cases hrun'
  have hmkon:=hall mk (by simp)
  obtain ⟨c,N,es,obj,h1,h2,h3,h4,h5,h6⟩:=mi.on hmkon
  obtain ⟨_,hq1,hq2⟩:=h5 c rfl
  have hfil:ins.filter (fun z=>listed.getD z.i false)=ins:=List.filter_eq_self.2 fun z hz=>hall z (by simp [hz])
  rw [hfil,(insVals_map hes).1] at h6
  have hrel:Rel w0 K ρ (hF.put bm (some (.map esF))) nxF w:=v.rel.fill h1 h2 (h3.perm h6) hq1 fun b' o N' hb' hr'=>hq2 b' o N' hb' hr'
  refine ⟨⟨hrel,fun t q hq => ?_,v.dfs,v.size⟩,v.stp.sub,v.stp.up,fun b hb hn => ?_⟩
  · rw [tput_get hput] at hq
    split at hq
    · rename_i e
      cases e;cases hq
      exact ⟨_,h4,by simp only [RelV];exact ⟨c,N,h1,rfl⟩⟩
    · refine v.tms t q hq fun x hx hoff => ?_
      have h2:=hall x (by simp [v.inL hx])
      simp only [Off] at hoff
      rw [hoff] at h2;cases h2
  · obtain ⟨p1,p2⟩:=v.stp.pend b hb hn
    exact ⟨p1,by rw [PT.get_put_ne _ _ _ _ (by omega)];exact p2⟩
structure TInv (E:Env) (call:CallF) (yield:YieldF) (round:Bool) (size:Nat) (ops:Array Oper) (pre tail:List DI) (w0:World) (K:Nat→Prop) (ρ0:Ren) (h0:Heap) (nx0:Nat) (tmE:PT KV) (dfE:List KDef) (hE:Heap) (nxE:Nat)
    (t1 t2:List DI) (T:PT KV) (df:List KDef) (H:Heap) (nx:Nat) (ρ:Ren) (listed:Array Bool) (a:Act) (w:World):Prop where
  split:tail=t1 ++ t2
  run:doOps E call yield round size ops.toList (opsOf t2) T df H nx=.ok tmE dfE hE nxE
  pre : ∀ y ∈ pre ++ t1,listed.getD y.i false=true
  off : ∀ z ∈ t2,listed.getD z.i false=false
  mid:Mid E w0 K ρ size T df H nx a w
  stp:Stp ρ0 h0 nx0 ρ H nx
  closed:Closed ops listed
  lsz:listed.size=ops.size
theorem TInv.step {pre tail:List DI} {nx0:Nat} {tmE:PT KV} {dfE:List KDef} {hE':Heap} {nxE:Nat} {t1 t2:List DI} (hE:ExtOk E) (hN:NamesOk E.P) (hcall:CallOk E call) (hyield:YieldOk E yield) (ht:TailOk pre tail) (hd : ∀ x ∈ tail,DIok ops.toList x) (hdif:(tail.map (·.i)).Nodup)
    (hat : ∀ i,i<ops.size → ∃ x ∈ pre ++ tail,x.i=i)
    (v:TInv E call yield round size ops pre tail w0 K ρ0 h0 nx0 tmE dfE hE' nxE t1 t2 T df H nx ρ listed a w) {b:Frame} {cs:List Frame} (hb:FrOk b cs round) {k:List Item} {i:Nat} (hr:i ∈ Region.ready .any ops listed) (rs:List Nat) :
    ∃ a' w',Steps E.P (lone (fr b a (.inRegion ops (i :: rs) :: k)) cs w) (lone (fr b a' (.inRegion ops rs :: k)) cs w') ∧
      ∃ t1' t2' T' df' H' nx' ρ',TInv E call yield round size ops pre tail w0 K ρ0 h0 nx0 tmE dfE hE' nxE t1' t2' T' df' H' nx' ρ' (listed.setIfInBounds i true) a' w':=by
  have hrd:=mem_ready.1 hr
  have hl:i<listed.size:=by
    rcases Nat.lt_or_ge i listed.size with h' | h'
    · exact h'
    · simp [Array.getElem?_eq_none h'] at hrd
  have hioff:listed.getD i false=false:=by
    have:=hrd.1
    simpa [hl] using this
  obtain ⟨x,hx,rfl⟩:=hat i (by rw [← v.lsz];exact hl)
  have hx2:x ∈ t2:=by
    rw [v.split] at hx
    rcases List.mem_append.1 hx with hx | hx
    · rw [v.pre x (by simp [hx])] at hioff;cases hioff
    · rcases List.mem_append.1 hx with hx | hx
      · rw [v.pre x (by simp [hx])] at hioff;cases hioff
      · exact hx
  have hxt:x ∈ tail:=by rw [v.split];simp [hx2]
  have hDI:=hd x hxt
  have hself:x.before.testBit x.i=false:=by
    obtain ⟨s1,s2,hs⟩:=List.append_of_mem hxt
    exact (ht.chain s1 x s2 hs).2 x (by simp)
  have hbits : ∀ j,x.before.testBit j=true→listed.getD j false=true:=fun j hj=>by
    have hne:x.i≠j:=fun e=>by subst e;rw [hself] at hj;cases hj
    have:=hDI.closed (listed.setIfInBounds x.i true) (by simpa using v.closed.step hr) (getD_set_self hl false) j hj
    rwa [getD_set_ne false hne] at this
  cases ht2:t2 with
  | nil=>rw [ht2] at hx2;simp at hx2
  | cons z r =>
    have hxz:x=z:=by
      rw [ht2] at hx2
      rcases List.mem_cons.1 hx2 with e | hx3
      · exact e
      · obtain ⟨s1,s2,hs⟩:=List.append_of_mem hx3
        have hb:=(ht.chain (t1 ++ z :: s1) x s2 (by rw [v.split,ht2,hs];simp)).1 z (by simp)
        have:=hbits z.i hb
        rw [v.off z (by rw [ht2];simp)] at this;cases this
    subst hxz
    subst ht2
    have hop:ops[x.i]?=some x.o:=by simpa using hDI.op
    have hrun:=v.run
    simp only [opsOf,doOps] at hrun
    have hnd : ∀ y ∈ t1 ++ r,y.i≠x.i:=by
      rw [v.split,List.map_append,List.map_cons,List.nodup_append] at hdif
      obtain ⟨_,h2,h3⟩:=hdif
      rw [List.nodup_cons] at h2
      intro y hy e
      rcases List.mem_append.1 hy with hy | hy
      · exact h3 y.i (List.mem_map.2 ⟨y,hy,rfl⟩) x.i (by simp) e
      · exact h2.1 (List.mem_map.2 ⟨y,hy,e⟩)
    have next : ∀ {T1:PT KV} {df1:List KDef} {H1:Heap} {nx1:Nat} {a1:Act} {w1:World} {ρ1:Ren},doOps E call yield round size ops.toList (opsOf r) T1 df1 H1 nx1=.ok tmE dfE hE' nxE→Mid E w0 K ρ1 size T1 df1 H1 nx1 a1 w1→Stp ρ H nx ρ1 H1 nx1 →
        TInv E call yield round size ops pre tail w0 K ρ0 h0 nx0 tmE dfE hE' nxE (t1 ++ [x]) r T1 df1 H1 nx1 ρ1 (listed.setIfInBounds x.i true) a1 w1:=fun g1 g2 g3 => {
      split:=by rw [v.split];simp
      run:=g1
      pre:=fun y hy=>by
        rw [← List.append_assoc] at hy
        rcases List.mem_append.1 hy with hy | hy
        · exact getD_set_true (v.pre y hy)
        · simp only [List.mem_singleton] at hy;subst hy;exact getD_set_self hl false
      off:=fun y hy=>by
        rw [getD_set_ne false fun e=>hnd y (by simp [hy]) e.symm]
        exact v.off y (by simp [hy])
      mid:=g2
      stp:=v.stp.trans g3
      closed:=v.closed.step hr
      lsz:=by simpa using v.lsz }
    split at hrun
    · cases hrun
    · rename_i hw
      split at hrun
      · rename_i T1 hput
        have hwf:=wanted_ok (a:=a) hw v.mid.tms
        have hst:=st_op_skip (P:=E.P) (b:=b) (a:=a) (k:=k) (cs:=cs) (w:=w) (ops:=ops) (i:=x.i) (rest:=rs) (by simp [hop,hwf])
        rw [hop] at hst
        exact ⟨_,w,.one hst,t1 ++ [x],r,_,_,_,_,ρ,next hrun (v.mid.put hput relU) (.refl _ _ _)⟩
      · cases hrun
    · rename_i hw
      have hwt:=wanted_ok (a:=a) hw v.mid.tms
      split at hrun
      · cases hrun
      · rename_i T1 df1 H1 nx1 hdo
        obtain ⟨a1,w1,ρ1,s1,m1,st1⟩:=doOp_ok hE hN hcall hyield hdo v.mid hb (rest:=rs) (k:=k) hop hwt
        exact ⟨a1,w1,s1,t1 ++ [x],r,_,_,_,_,ρ1,next hrun m1 st1⟩
end
theorem all_of_list {ops:List Oper} {x:DI} : ∀ {l:List DI},(∀ y ∈ l,y ∈ disOf ops)→x ∈ l→DIok ops x:=fun {l} h hx=>by
  refine flagged_ok (fun y hy=>mkDIs_ok ops ops 0 .leaf rfl ?_ y hy) x (h x hx)
  intro k listed _ _ j hj
  simp [bitsAt,PT.get_leaf] at hj
theorem mem_orderOf {x:DI} {l:List DI} (h:x ∈ orderOf l):x ∈ l:=by
  rcases mem_orderBy h with h | h <;> exact (mem_keep.1 h).1
theorem drawP_ok {E : Env} (hE:ExtOk E) (hN:NamesOk E.P) (hm:E.P.follows .mixedOrders=true):DrawsOk E (drawP E):=by
  intro call yield range hcall hyield round size ops tm df h nx tm' df' h' nx' he w0 K b k cs a w ρ id hb m
  simp only [drawP] at he
  split at he
  · split at he
    · rename_i hp
      simp only [Bool.and_eq_true] at hp
      obtain ⟨hp1,hp2,hp3⟩:=hp
      have hat : ∀ i,i<ops.size → ∃ x ∈ orderOf (disOf ops.toList),x.i=i:=fun i hi=>covers_iff hp2 (Nat.zero_le _) (by simpa using hi)
      have hp:PlanFor ops (orderOf (disOf ops.toList)) []:={
        dis:=fun x hx=>orderOf_ok hx
        dis2:=fun x hx=>by simp at hx
        all:=hp1
        at_:=fun i hi=>.inl (hat i hi)
        down:=fun x hx j hj=>by
          have h:=boundOk_iff hp3 hx
          rw [lenOps_eq] at h
          refine hat j ?_
          rcases Nat.lt_or_ge j ops.size with h1 | h1
          · exact h1
          · have:x.before<2 ^ j:=Nat.lt_of_lt_of_le h (Nat.pow_le_pow_right (by omega) (by simpa using h1))
            rw [Nat.testBit_lt_two_pow this] at hj
            cases hj }
      obtain ⟨a',w',l',s,⟨done,rest,fl,T,dd,H,nn,own,ρ',v,hset⟩,hr⟩:=drawn_ok (P:=E.P) hm (ops:=ops) (b:=b) (cs:=cs) (k:=k) (id:=id) (a:=a) (w:=w)
        (fun listed a w => ∃ done rest fl T dd H nn own ρ',DInv E (fun _=>true) 0 call yield round size ops (orderOf (disOf ops.toList)) w0 K ρ h nx tm' df' h' nx' done rest fl T dd H nn own ρ' listed a w∧Settled rest)
        (by
          have v0:DInv E (fun _=>true) 0 call yield round size ops (orderOf (disOf ops.toList)) w0 K ρ h nx tm' df' h' nx' [] (orderOf (disOf ops.toList)) [] tm df h nx (fun _=>none) ρ (Array.replicate ops.size false) a { w with drawn:=w.drawn+1 } := {
            split:=rfl
            run:=he
            dl:=fun x hx=>by simp at hx
            rl:=fun x hx=>by
              have hlt:x.i<ops.size:=(Array.getElem?_eq_some_iff.1 (di_op hp hx)).1
              simp [Off,hlt]
            pf:=fun x hx=>by simp at hx
            rel:=m.rel.drew _
            stp:=.refl _ _ _
            dfs:=m.dfs
            size:=m.size
            tms:=fun t q hq _=>m.tms t q hq
            closed:=.start ops
            lsz:=by simp
            ckH:=rfl
            lo_le:=Nat.zero_le _ }
          obtain ⟨done',rest',fl',T',dd',H',nn',own',v',hs',_⟩:=settle hp (fun _ _=>rfl) _ _ _ _ _ _ _ _ v0
          exact ⟨done',rest',fl',T',dd',H',nn',own',ρ,v',hs'⟩)
        (by
          rintro listed a w i ⟨done,rest,fl,T,dd,H,nn,own,ρ',v,hset⟩ hi rs
          have hl:i<ops.size:=by
            obtain ⟨_,o,ho,_⟩:=mem_ready.1 hi
            exact (Array.getElem?_eq_some_iff.1 ho).1
          obtain ⟨x,hxL,rfl⟩:=hat i hl
          obtain ⟨a',w',hst,done',rest',fl',T',df',H',nx',own',ρ',v',hs',_⟩:=v.step (Q:=fun _=>False) hE hN hcall hyield hp (fun _ _=>rfl) hset (fun c hc=>hc.elim) hb (k:=k) hxL hi rs
          exact ⟨a',w',hst,done',rest',fl',T',df',H',nx',own',ρ',v',hs'⟩)
      have hall:=v.all hp hr
      have hrest:rest=[]:=by
        cases rest with
        | nil=>rfl
        | cons x r =>
          have h1:=v.rl x (by simp)
          have h2:=hall x (by rw [v.split];simp)
          simp only [Off] at h1
          rw [h1] at h2;cases h2
      subst hrest
      have hrun:=v.run
      simp only [mkPlan,runP] at hrun
      cases hrun
      refine ⟨a',w',ρ',s,⟨v.rel,fun t q hq=>v.tms t q hq fun x hx hoff => ?_,v.dfs,v.size⟩,v.stp⟩
      have h2:=hall x (v.inL hx)
      simp only [Off] at hoff
      rw [hoff] at h2;cases h2
    · cases he
  · rename_i dm hdm
    split at he
    · rename_i mk mks hmks
      split at he
      · rename_i hmap
        split at he
        · rename_i TF dF hF nF hrun
          split at he
          · cases he
          · rename_i hTF
            split at he
            · cases he
            · rename_i esF hes
              split at he
              · cases he
              · rename_i hka
                split at he
                · rename_i T2 hput
                  have hmkL:mk ∈ disOf ops.toList:=(mem_keep.1 (by rw [hmks];simp:mk ∈ keep (writesTmp dm) (disOf ops.toList))).1
                  have hdis : ∀ x ∈ orderOf (keep (notMap dm mk.i) (disOf ops.toList)) ++ mk :: (keep isIns (disOf ops.toList) ++ keep (afterMap mk.i) (disOf ops.toList)),DIok ops.toList x:=fun x hx=>all_of_list (l:=[x]) (fun y hy=>by
                    simp only [List.mem_singleton] at hy
                    subst hy
                    simp only [List.mem_append,List.mem_cons] at hx
                    rcases hx with hx | rfl | hx | hx
                    · exact (mem_keep.1 (mem_orderOf hx)).1
                    · exact hmkL
                    · exact (mem_keep.1 hx).1
                    · exact (mem_keep.1 hx).1) (by simp)
                  have mo:=mapOk_iff hmap hdis
                  generalize orderOf (keep (notMap dm mk.i) (disOf ops.toList))=L at hmap hdis mo hrun
                  generalize keep isIns (disOf ops.toList)=ins at hmap hdis mo hrun hes hka
                  generalize keep (afterMap mk.i) (disOf ops.toList)=tail at hmap hdis mo he
                  have hdmlt:dm<size:=tput_lt hput
                  have hat : ∀ i,i<ops.size → ∃ x ∈ (L ++ mk :: ins) ++ tail,x.i=i:=fun i hi=>by
                    rcases mo.plan.at_ i hi with ⟨x,hx,e⟩ | ⟨x,hx,e⟩
                    · exact ⟨x,by simp [hx],e⟩
                    · refine ⟨x,?_,e⟩
                      simp only [List.mem_append,List.mem_cons] at hx ⊢
                      rcases hx with h | h | h
                      · exact .inl (.inr (.inl h))
                      · exact .inl (.inr (.inr h))
                      · exact .inr h
                  let StA:Array Bool→Act→World→Prop:=fun listed a w=>(∀ z ∈ tail,listed.getD z.i false=false) ∧ ∃ done rest fl T dd H nn own ρ',DInv E (ckAt nx) (nx+1) call yield round size ops L w0 K ρ h nx TF dF hF nF done rest fl T dd H nn own ρ' listed a w∧Settled rest ∧
                      MInv K nx dm mk ins TF ρ' H listed a w
                  let StB:Array Bool→Act→World→Prop:=fun listed a w => ∃ t1 t2 T dd H nn ρ',TInv E call yield round size ops (L ++ mk :: ins) tail w0 K ρ h nx tm' df' h' nx' t1 t2 T dd H nn ρ' listed a w
                  have toB : ∀ listed a w,StA listed a w→(∀ y ∈ L ++ mk :: ins,listed.getD y.i false=true)→StB listed a w:=by
                    rintro listed a w ⟨hoff,done,rest,fl,T,dd,H,nn,own,ρ',v,hset,mi⟩ hall
                    obtain ⟨g1,g2⟩:=v.finish mi hes hput hall
                    exact ⟨[],tail,T2,dF,_,nF,ρ',⟨rfl,he,fun y hy=>hall y (by simpa using hy),hoff,g1,g2,v.closed,v.lsz⟩⟩
                  obtain ⟨a',w',l',s,hfin,hr⟩:=drawn_ok (P:=E.P) hm (ops:=ops) (b:=b) (cs:=cs) (k:=k) (id:=id) (a:=a) (w:=w) (fun listed a w=>StA listed a w∨StB listed a w)
                    (by
                      have v0:DInv E (ckAt nx) (nx+1) call yield round size ops L w0 K ρ h nx TF dF hF nF [] L [] (tm.put dm none) df h (nx+1) (fun _=>none) ρ (Array.replicate ops.size false) a { w with drawn:=w.drawn+1 } := {
                        split:=rfl
                        run:=hrun
                        dl:=fun x hx=>by simp at hx
                        rl:=fun x hx=>by
                          have hlt:x.i<ops.size:=(Array.getElem?_eq_some_iff.1 (di_op mo.plan hx)).1
                          simp [Off,hlt]
                        pf:=fun x hx=>by simp at hx
                        rel:=by
                          have r:=m.rel.drew (w.drawn+1)
                          exact ⟨r.img,fun b o hb=>Nat.lt_succ_of_lt (r.low b o hb),fun b hb=>r.fresh b (by omega),r.inj,r.kept,r.grown,r.os,r.output,r.glob⟩
                        stp:=⟨.refl _,Nat.le_succ _,fun _ _ hn=>⟨hn,rfl⟩⟩
                        dfs:=m.dfs
                        size:=m.size
                        tms:=fun t q hq _=>by
                          rw [PT.get_put] at hq
                          split at hq
                          · cases hq
                          · exact m.tms t q hq
                        closed:=.start ops
                        lsz:=by simp
                        ckH:=ckAt_iff.2 (m.rel.noneAt nx (Nat.le_refl _))
                        lo_le:=Nat.le_refl _ }
                      obtain ⟨done',rest',fl',T',dd',H',nn',own',v',hs',_⟩:=settle mo.plan (fun {H nx' ob} h1 h2=>by
                        rw [ckAt_iff] at h2 ⊢
                        rw [PT.get_put_ne _ _ _ _ (by omega)];exact h2) _ _ _ _ _ _ _ _ v0
                      refine .inl ⟨fun z hz => ?_,done',rest',fl',T',dd',H',nn',own',ρ,v',hs',fun _=>m.rel.fresh nx (Nat.le_refl _),fun h => ?_⟩
                      · have hlt:z.i<ops.size:=by
                          have:=(mo.plan.dis2 z (by simp [hz])).op
                          simpa using (List.getElem?_eq_some_iff.1 this).1
                        simp [hlt]
                      · have hlt:mk.i<ops.size:=by
                          have:=(mo.plan.dis2 mk (by simp)).op
                          simpa using (List.getElem?_eq_some_iff.1 this).1
                        simp [hlt] at h)
                    (by
                      intro listed a w i hinv hi rs
                      have stepB:StB listed a w → ∃ a' w',Steps E.P (lone (fr b a (.inRegion ops (i :: rs) :: k)) cs w) (lone (fr b a' (.inRegion ops rs :: k)) cs w')∧(StA (listed.setIfInBounds i true) a' w'∨StB (listed.setIfInBounds i true) a' w'):=by
                        rintro ⟨t1,t2,T,dd,H,nn,ρ',v⟩
                        obtain ⟨a',w',hst,t1',t2',T',dd',H',nn',ρ2,v'⟩:=v.step hE hN hcall hyield mo.tok (fun x hx=>mo.plan.dis2 x (by simp [hx])) mo.tdif hat hb (k:=k) hi rs
                        exact ⟨a',w',hst,.inr ⟨t1',t2',T',dd',H',nn',ρ2,v'⟩⟩
                      rcases hinv with hA | hB
                      · obtain ⟨hoff,done,rest,fl,T,dd,H,nn,own,ρ',v,hset,mi⟩:=hA
                        by_cases hit : ∃ z ∈ tail,z.i=i
                        · obtain ⟨z,hz,rfl⟩:=hit
                          refine stepB (toB listed a w ⟨hoff,done,rest,fl,T,dd,H,nn,own,ρ',v,hset,mi⟩ fun y hy => ?_)
                          have hDI:=mo.plan.dis2 z (by simp [hz])
                          have hl:z.i<listed.size:=by
                            rw [v.lsz]
                            simpa using (List.getElem?_eq_some_iff.1 hDI.op).1
                          have:=hDI.closed (listed.setIfInBounds z.i true) (by simpa using v.closed.step hi) (getD_set_self hl false) y.i (mo.tok.pre z hz y hy)
                          rwa [getD_set_ne false fun e=>mo.toff z hz y hy e.symm] at this
                        · have hnt : ∀ z ∈ tail,z.i≠i:=fun z hz e=>hit ⟨z,hz,e⟩
                          obtain ⟨a',w',hst,done',rest',fl',T',dd',H',nn',own',ρ2,v',hs',mi'⟩:=v.stepM hE hN hcall hyield mo hset mi hdmlt hTF hes hka hb (k:=k) hi hnt rs
                          refine ⟨a',w',hst,.inl ⟨fun z hz => ?_,done',rest',fl',T',dd',H',nn',own',ρ2,v',hs',mi'⟩⟩
                          rw [getD_set_ne false fun e=>hnt z hz e.symm]
                          exact hoff z hz
                      · exact stepB hB)
                  have hB : StB l' a' w':=by
                    rcases hfin with hA | hB
                    · obtain ⟨hoff,done,rest,fl,T,dd,H,nn,own,ρ',v,hset,mi⟩:=hA
                      refine toB l' a' w' ⟨hoff,done,rest,fl,T,dd,H,nn,own,ρ',v,hset,mi⟩ ?_
                      have hall:=v.all mo.plan hr
                      have come : ∀ x ∈ mk :: ins,(∀ j,x.before.testBit j=true→l'.getD j false=true)→l'.getD x.i false=true:=fun x hx hb=>by
                        cases hc:l'.getD x.i false with
                        | true=>rfl
                        | false =>
                          have hd:=mo.plan.dis2 x (by
                            rcases List.mem_cons.1 hx with rfl | hx
                            · simp
                            · simp [hx])
                          have hxo:ops[x.i]?=some x.o:=by simpa using hd.op
                          have hlt:x.i<l'.size:=by rw [v.lsz];exact (Array.getElem?_eq_some_iff.1 hxo).1
                          have:x.i ∈ Region.ready .any ops l':=mem_ready.2 ⟨by simpa [hlt] using hc,x.o,hxo,fun e he hbind=>hb e.on (hd.edges e he hbind)⟩
                          rw [hr] at this;simp at this
                      have hmkon:=come mk (by simp) fun j hj=>by rw [mo.mkk.before] at hj;simp at hj
                      have hinson : ∀ x ∈ ins,l'.getD x.i false=true:=fun x hx=>come x (by simp [hx]) fun j hj=>by
                        obtain ⟨y,hy,he⟩:=mo.bound x (by simp [hx]) j hj
                        rcases List.mem_append.1 hy with hy | hy
                        · rw [← he];exact hall y hy
                        · rcases List.mem_cons.1 hy with rfl | hy
                          · rw [← he];exact hmkon
                          · have:=(mo.inss x hx).none y hy
                            rw [he,hj] at this;cases this
                      intro y hy
                      rcases List.mem_append.1 hy with hy | hy
                      · exact hall y hy
                      · rcases List.mem_cons.1 hy with rfl | hy
                        · exact hmkon
                        · exact hinson y hy
                    · exact hB
                  obtain ⟨t1,t2,T,dd,H,nn,ρ',v⟩:=hB
                  cases t2 with
                  | nil =>
                    have hrun:=v.run
                    simp only [opsOf,doOps] at hrun
                    cases hrun
                    exact ⟨a',w',ρ',s,v.mid,v.stp⟩
                  | cons z r =>
                    have hz:z ∈ tail:=by rw [v.split];simp
                    have hd:=mo.plan.dis2 z (by simp [hz])
                    have hzo:ops[z.i]?=some z.o:=by simpa using hd.op
                    have hlt:z.i<l'.size:=by rw [v.lsz];exact (Array.getElem?_eq_some_iff.1 hzo).1
                    have hzoff:=v.off z (by simp)
                    obtain ⟨_,hchain⟩:=mo.tok.chain t1 z r v.split
                    have:z.i ∈ Region.ready .any ops l':=mem_ready.2 ⟨by simpa [hlt] using hzoff,z.o,hzo,fun e he hbind=>by
                      have hbit:=hd.edges e he hbind
                      obtain ⟨y,hy,hye⟩:=mo.tbound z hz e.on hbit
                      rcases List.mem_append.1 hy with hy | hy
                      · rw [← hye];exact v.pre y (by simp only [List.mem_append] at hy ⊢;exact .inl hy)
                      · rw [v.split] at hy
                        rcases List.mem_append.1 hy with hy | hy
                        · rw [← hye];exact v.pre y (by simp [hy])
                        · have:=hchain y hy
                          rw [hye,hbit] at this;cases this⟩
                    rw [hr] at this;simp at this
                · cases he
        · cases he
      · cases he
    · cases he
end Go.Ev
namespace Go.Ev
def idxK:Nat→Nat→Nat→Nat→Option Nat
  | 0,_,_,_=>none
  | l+1,n,c,i=>match Nat.beq (Nat.mod n 256) c with
    | true=>some i
    | false=>idxK l (Nat.div n 256) c (Nat.succ i)
theorem idxK_ok (c:Nat) (hc:c<256) (Q:Nat→Bool) : ∀ (l n i:Nat),(∀ j,j<l→Q (i+j)=((bytesL l n)[j]? == some (UInt8.ofNat c)))→(List.range' i l).find? Q=idxK l n c i
  | 0,_,_,_=>rfl
  | l + 1,n,i,h=>by
    rw [List.range'_succ,List.find?_cons]
    have h0:=h 0 (by omega)
    simp only [Nat.add_zero,bytesL,List.getElem?_cons_zero] at h0
    have hb:Nat.beq (Nat.mod n 256) c=Q i:=by
      rw [h0]
      show Nat.beq (n % 256) c=_
      rw [Bool.eq_iff_iff]
      have hlt:n % 256<256:=Nat.mod_lt _ (by omega)
      constructor
      · intro h
        rw [Nat.eq_of_beq_eq_true h]
        simp
      · intro h
        have h:UInt8.ofNat (n % 256)=UInt8.ofNat c:=by simpa using h
        have:=congrArg UInt8.toNat h
        simp only [UInt8.toNat_ofNat',Nat.mod_mod] at this
        rw [show n % 256=c by simpa [Nat.mod_eq_of_lt hc] using this]
        simp
    simp only [idxK,hb]
    cases Q i with
    | true=>rfl
    | false =>
      simp only []
      exact idxK_ok c hc Q l (n / 256) (i+1) fun j hj=>by
        have:=h (j+1) (by omega)
        rw [show i+(j+1)=i+1+j by omega] at this
        rw [this]
        simp [bytesL]
theorem firstIdx_ok {l n c:Nat} (hc:c<256):firstIdx (strOf l n) (UInt8.ofNat c)=match idxK l n c 0 with | some i=>(i:Int) | none => -1:=by
  have h:=idxK_ok c hc (fun i=>(strOf l n)[i]! == UInt8.ofNat c) l n 0 fun j hj=>by
    have hs:j<(strOf l n).size:=by rw [strOf_size];exact hj
    have hg:(strOf l n)[0+j]! = (bytesL l n)[j]'(by rw [bytesL_length];exact hj):=by
      rw [Nat.zero_add,getElem!_pos (strOf l n) j hs]
      simp [strOf,ByteArray.getElem_eq_getElem_data]
    rw [hg,List.getElem?_eq_getElem (by rw [bytesL_length];exact hj)]
    rfl
  unfold firstIdx
  rw [strOf_size,List.range_eq_range',h]
  cases idxK l n c 0 <;> rfl
def ext1 (_:Heap) (kind:Nat) (args:List KV):Option KV :=
  match kind with
  | 1=>match args with
    | [.str l n,.int k (.ofNat c)]=>match k with
      | .u8=>match Nat.blt c 256 with
        | true=>match idxK l n c 0 with
          | some i=>some (.int .i64 (.ofNat i))
          | none=>some (.int .i64 (.negSucc 0))
        | false=>none
      | _=>none
    | _=>none
  | _=>none
def x1 (id:Nat) (f:FuncId):Nat:=match Nat.beq f id with | true=>1 | false=>0
theorem ext1_ok {P : Program} {id : FuncId} {fn : Func} (hf : P.funcs[id]? = some fn) (hname : (fn.name == "runtime.NumGoroutine") = false)
    (hb:fn.body.isNone=true) (hn:Extern.findNext fn=none) (he:Extern.find fn=some Extern.BytealgIndexByte.indexByte):ExtOk ⟨P,x1 id,ext1⟩:=by
  intro w0 K ρ h nx w g args vargs v hx hv r ha
  have hg:g=id:=by
    simp only [x1] at hx
    split at hx
    · rename_i e;exact Nat.eq_of_beq_eq_true e
    · exact absurd rfl hx
  subst hg
  have hx1:x1 g g=1:=by simp [x1]
  simp only [hx1,ext1] at hv
  split at hv
  · rename_i l n k c
    split at hv
    · split at hv
      · rename_i hc
        have hc:c<256:=by simpa [Nat.blt_eq] using hc
        simp only [RelVs,RelV] at ha
        obtain ⟨vs,r1,hl,⟨_,rfl⟩,vc,r2,rfl,rfl,rfl⟩:=ha
        have hargs:vargs=#[.string (strOf l n),.int .u8 (c:Int)]:=by
          apply Array.ext'
          simpa using hl
        subst hargs
        have hrun:=run_callFunc_indexByte (P:=P) hf hname hb hn he #[.string (strOf l n),.int .u8 (c:Int)] w
        rw [run_indexByte_string] at hrun
        simp only [Result.andThen] at hrun
        refine ⟨_,hrun,?_⟩
        have hto:(c:Int).toNat.toUInt8=UInt8.ofNat c:=by simp
        rw [hto,firstIdx_ok hc]
        split at hv
        · rename_i i hi;cases hv;simp only [RelV];rfl
        · rename_i hi;cases hv;simp only [RelV];rfl
      · cases hv
    · cases hv
  · cases hv
end Go.Ev
namespace Go.Ev
inductive LO where
  | row (ro:Bool) (cs:List KV)
  | map (es:List (KV × KV))
noncomputable def cellsOf:List KV→Nat→PT KV
  | [],_=>.leaf
  | v :: r,i=>(cellsOf r (Nat.succ i)).put i (some v)
noncomputable def toObj:LO→KObj
  | .row ro cs=>.cells (nlen cs) (cellsOf cs 0) ro
  | .map es=>.map es
noncomputable def heapOf:List (Nat × LO)→Heap
  | []=>.leaf
  | (b,o) :: r=>(heapOf r).put b (some (toObj o))
def renFn (r:Nat→Nat) (fn:Fn):Fn :=
  match fn with
  | .yield l=>.yield (r l)
  | fn=>fn
mutual
def renV (r:Nat→Nat):KV→KV
  | .int k n=>.int k n
  | .bool b=>.bool b
  | .str l n=>.str l n
  | .ptr b off=>.ptr (r b) off
  | .nilptr=>.nilptr
  | .slice b off len cap es ex=>.slice (r b) off len cap es ex
  | .eslice=>.eslice
  | .nilslice=>.nilslice
  | .map b=>.map (r b)
  | .nilmap=>.nilmap
  | .func fn fs cs=>.func (renFn r fn) (renVs r fs) (renVs r cs)
  | .nilfunc=>.nilfunc
  | .iface t x=>.iface t (renV r x)
  | .niliface=>.niliface
  | .agg cs=>.agg (renVs r cs)
  | .tuple cs=>.tuple (renVs r cs)
def renVs (r:Nat→Nat):List KV→List KV
  | []=>[]
  | a :: s=>renV r a :: renVs r s
end
def renE (r:Nat→Nat):List (KV × KV)→List (KV × KV)
  | []=>[]
  | (k,v) :: s=>(renV r k,renV r v) :: renE r s
def renO (r:Nat→Nat):LO→LO
  | .row ro cs=>.row ro (renVs r cs)
  | .map es=>.map (renE r es)
theorem RelFn.ren {ρ1 ρ2:Ren} {r:Nat→Nat} (hr : ∀ b x,ρ1 b=some x→ρ2 (r b)=some x) {fn fn':Fn} (h:RelFn ρ1 fn fn'):RelFn ρ2 (renFn r fn) fn':=by
  cases fn <;> simp only [RelFn,renFn] at h ⊢ <;> try exact h
  obtain ⟨c,N,h1,h2⟩:=h
  exact ⟨c,N,hr _ _ h1,h2⟩
theorem RelFn.unren {ρ:Ren} {r:Nat→Nat} {fn fn':Fn} (h:RelFn ρ (renFn r fn) fn'):RelFn (fun b=>ρ (r b)) fn fn':=by
  cases fn <;> simp only [RelFn,renFn] at h ⊢ <;> exact h
mutual
theorem RelV.ren {ρ1 ρ2:Ren} {r:Nat→Nat} (hr : ∀ b x,ρ1 b=some x→ρ2 (r b)=some x) : ∀ (k:KV) (v:Value),RelV ρ1 k v→RelV ρ2 (renV r k) v
  | .int _ _,_,h=>h
  | .bool _,_,h=>h
  | .str _ _,_,h=>h
  | .ptr _ _,_,⟨c,N,h1,h2⟩=>⟨c,N,hr _ _ h1,h2⟩
  | .nilptr,_,h=>h
  | .slice ..,_,⟨c,N,cap',h1,h2⟩=>⟨c,N,cap',hr _ _ h1,h2⟩
  | .eslice,_,h=>h
  | .nilslice,_,h=>h
  | .map _,_,⟨c,N,h1,h2⟩=>⟨c,N,hr _ _ h1,h2⟩
  | .nilmap,_,h=>h
  | .func _ fs cs,_,⟨fn',fs',cs',h1,h2,h3,h4⟩=>⟨fn',fs',cs',h1.ren hr,h2,RelVs.ren hr fs _ h3,RelVs.ren hr cs _ h4⟩
  | .nilfunc,_,h=>h
  | .iface _ x,_,⟨x',h1,h2⟩=>⟨x',h1,RelV.ren hr x _ h2⟩
  | .niliface,_,h=>h
  | .agg cs,_,⟨cs',h1,h2⟩=>⟨cs',h1,RelVs.ren hr cs _ h2⟩
  | .tuple cs,_,⟨cs',h1,h2⟩=>⟨cs',h1,RelVs.ren hr cs _ h2⟩
theorem RelVs.ren {ρ1 ρ2:Ren} {r:Nat→Nat} (hr : ∀ b x,ρ1 b=some x→ρ2 (r b)=some x) : ∀ (k:List KV) (v:List Value),RelVs ρ1 k v→RelVs ρ2 (renVs r k) v
  | [],_,h=>h
  | a :: s,_,⟨x,t,h1,h2,h3⟩=>⟨x,t,h1,RelV.ren hr a x h2,RelVs.ren hr s t h3⟩
end
mutual
theorem RelV.unren {ρ:Ren} {r:Nat→Nat} : ∀ (k:KV) (v:Value),RelV ρ (renV r k) v→RelV (fun b=>ρ (r b)) k v
  | .int _ _,_,h=>h
  | .bool _,_,h=>h
  | .str _ _,_,h=>h
  | .ptr _ _,_,⟨c,N,h1,h2⟩=>⟨c,N,h1,h2⟩
  | .nilptr,_,h=>h
  | .slice ..,_,⟨c,N,cap',h1,h2⟩=>⟨c,N,cap',h1,h2⟩
  | .eslice,_,h=>h
  | .nilslice,_,h=>h
  | .map _,_,⟨c,N,h1,h2⟩=>⟨c,N,h1,h2⟩
  | .nilmap,_,h=>h
  | .func _ fs cs,_,⟨fn',fs',cs',h1,h2,h3,h4⟩=>⟨fn',fs',cs',RelFn.unren h1,h2,RelVs.unren fs _ h3,RelVs.unren cs _ h4⟩
  | .nilfunc,_,h=>h
  | .iface _ x,_,⟨x',h1,h2⟩=>⟨x',h1,RelV.unren x _ h2⟩
  | .niliface,_,h=>h
  | .agg cs,_,⟨cs',h1,h2⟩=>⟨cs',h1,RelVs.unren cs _ h2⟩
  | .tuple cs,_,⟨cs',h1,h2⟩=>⟨cs',h1,RelVs.unren cs _ h2⟩
theorem RelVs.unren {ρ:Ren} {r:Nat→Nat} : ∀ (k:List KV) (v:List Value),RelVs ρ (renVs r k) v→RelVs (fun b=>ρ (r b)) k v
  | [],_,h=>h
  | a :: s,_,⟨x,t,h1,h2,h3⟩=>⟨x,t,h1,RelV.unren a x h2,RelVs.unren s t h3⟩
end
theorem RelE.ren {ρ1 ρ2:Ren} {r:Nat→Nat} (hr : ∀ b x,ρ1 b=some x→ρ2 (r b)=some x) : ∀ {es:List (KV × KV)} {l:List MapEntry},RelE ρ1 es l→RelE ρ2 (renE r es) l
  | [],_,h=>h
  | (_,_) :: _,_,⟨e,s,h1,h2,h3,h4⟩=>⟨e,s,h1,RelV.ren hr _ _ h2,RelV.ren hr _ _ h3,h4.ren hr⟩
theorem RelE.unren {ρ:Ren} {r:Nat→Nat} : ∀ {es:List (KV × KV)} {l:List MapEntry},RelE ρ (renE r es) l→RelE (fun b=>ρ (r b)) es l
  | [],_,h=>h
  | (_,_) :: _,_,⟨e,s,h1,h2,h3,h4⟩=>⟨e,s,h1,RelV.unren _ _ h2,RelV.unren _ _ h3,RelE.unren h4⟩
theorem shapeK_ren {r:Nat→Nat} (k:KV):shapeK (renV r k)=shapeK k ∧ ∀ s,shapeK k=some s→renV r k=k:=by
  cases k <;> simp [renV,shapeK]
theorem keys_ren {r:Nat→Nat} : ∀ {es:List (KV × KV)},(∃ s,∀ e ∈ es,shapeK e.1=some s)→(renE r es).map (·.1)=es.map (·.1)
  | [],_=>rfl
  | (k,v) :: t,⟨s,h⟩=>by
    simp only [renE,List.map_cons]
    rw [keys_ren ⟨s,fun e he=>h e (by simp [he])⟩,(shapeK_ren k).2 s (h (k,v) (by simp))]
theorem shape_of_map {es:List (KV × KV)} {s:Option IntKind} : (∀ e ∈ es,shapeK e.1=some s) ↔ ∀ k ∈ es.map (·.1),shapeK k=some s:=by simp
theorem keysOk_ren {r:Nat→Nat} {es:List (KV × KV)} (h:KeysOk es):KeysOk (renE r es):=by
  obtain ⟨h1,s,h2⟩:=h
  have he:=keys_ren (r:=r) ⟨s,h2⟩
  refine ⟨by rw [he];exact h1,s,?_⟩
  rw [shape_of_map,he,← shape_of_map];exact h2
theorem keysOk_unren {r:Nat→Nat} : ∀ {es:List (KV × KV)},KeysOk (renE r es)→KeysOk es:=by
  intro es h
  obtain ⟨h1,s,h2⟩:=h
  have hs : ∀ {es:List (KV × KV)},(∀ e ∈ renE r es,shapeK e.1=some s) → ∀ e ∈ es,shapeK e.1=some s:=by
    intro es
    induction es with
    | nil=>intro _ e he;simp at he
    | cons a t ih =>
      intro h e he
      obtain ⟨k,v⟩:=a
      simp only [renE,List.mem_cons] at h
      rcases List.mem_cons.1 he with rfl | he
      · have:=h _ (.inl rfl)
        simpa [(shapeK_ren k).1] using this
      · exact ih (fun e he=>h e (.inr he)) e he
  have h3:=hs h2
  exact ⟨by rw [← keys_ren (r:=r) ⟨s,h3⟩];exact h1,s,h3⟩
theorem storable_ren {r:Nat→Nat} (k:KV):storable (renV r k)=storable k:=by cases k <;> rfl
theorem nlen_ren {r:Nat→Nat} (cs:List KV):nlen (renVs r cs)=nlen cs:=by
  rw [nlen_eq,nlen_eq]
  induction cs with
  | nil=>rfl
  | cons a s ih=>simp [renVs,ih]
theorem cellsOf_get : ∀ (cs:List KV) (i j:Nat),(cellsOf cs i).get j=if i≤j then cs[j - i]? else none
  | [],i,j=>by simp [cellsOf,PT.get_leaf]
  | v :: r,i,j=>by
    simp only [cellsOf]
    rw [PT.get_put,cellsOf_get r (Nat.succ i) j]
    by_cases h:j=i
    · subst h;simp
    · rw [if_neg h]
      by_cases h1:i≤j
      · rw [if_pos (by omega),if_pos h1,show j - i=(j - (i+1))+1 by omega,List.getElem?_cons_succ]
      · rw [if_neg (by omega),if_neg h1]
theorem renVs_get {r:Nat→Nat} : ∀ (cs:List KV) (i:Nat),(renVs r cs)[i]?=cs[i]?.map (renV r)
  | [],i=>by simp [renVs]
  | a :: s,0=>by simp [renVs]
  | a :: s,i+1=>by simp [renVs,renVs_get s i]
theorem toObj_ren {ρ1 ρ2:Ren} {r:Nat→Nat} (hr : ∀ b x,ρ1 b=some x→ρ2 (r b)=some x) {lo:LO} {N:Nat} {o:Obj} (h:RelO ρ1 N (toObj lo) o):RelO ρ2 N (toObj (renO r lo)) o:=by
  cases lo with
  | row ro cs =>
    obtain ⟨arr,elem,fz,h1,h2,h3,h4,h5⟩:=h
    refine ⟨arr,elem,fz,h1,by rw [nlen_ren];exact h2,h3,h4,fun i k hk => ?_⟩
    rw [cellsOf_get,if_pos (Nat.zero_le _),renVs_get] at hk
    cases hc:cs[i - 0]? with
    | none=>rw [hc] at hk;cases hk
    | some q =>
      rw [hc] at hk
      cases hk
      obtain ⟨h6,v,h7,h8⟩:=h5 i q (by rw [cellsOf_get,if_pos (Nat.zero_le _)];exact hc)
      exact ⟨by rw [storable_ren];exact h6,v,h7,RelV.ren hr _ _ h8⟩
  | map es =>
    obtain ⟨ents,clock,h1,hk,l,h2,h3⟩:=h
    exact ⟨ents,clock,h1,keysOk_ren hk,l,h2,h3.ren hr⟩
noncomputable def cellsFit (r:Nat→Nat) (c:PT KV):Nat→List KV→Bool
  | _,[]=>true
  | i,v :: s=>match c.get i with
    | some x=>match kvEq (renV r v) x with
      | true=>cellsFit r c (Nat.succ i) s
      | false=>false
    | none=>false
def entsFit (r:Nat→Nat):List (KV × KV)→List (KV × KV)→Bool
  | [],[]=>true
  | (k,v) :: s,(k',v') :: t=>match kvEq (renV r k) k' with
    | true=>match kvEq (renV r v) v' with
      | true=>entsFit r s t
      | false=>false
    | false=>false
  | _,_=>false
noncomputable def fits (r:Nat→Nat):LO→KObj→Bool
  | .row ro cs,.cells n c ro'=>match Nat.beq n (nlen cs) with
    | true=>match ro,ro' with
      | false,true=>false
      | _,_=>cellsFit r c 0 cs
    | false=>false
  | .map es,.map es'=>entsFit r es es'
  | _,_=>false
theorem cellsFit_iff {r:Nat→Nat} {c:PT KV} : ∀ {cs:List KV} {i:Nat},cellsFit r c i cs=true → ∀ j k,cs[j]?=some k→c.get (i+j)=some (renV r k)
  | [],_,_,j,k,hk=>by simp at hk
  | v :: s,i,h,j,k,hk=>by
    simp only [cellsFit] at h
    split at h
    · rename_i x hx
      split at h
      · rename_i he
        have he:=kvEq_eq _ _ he
        cases j with
        | zero=>simp at hk;subst hk;rw [he];exact hx
        | succ j =>
          have:=cellsFit_iff h j k (by simpa using hk)
          rw [show i+(j+1)=Nat.succ i+j by omega];exact this
      · cases h
    · cases h
theorem entsFit_iff {r:Nat→Nat} : ∀ {es es':List (KV × KV)},entsFit r es es'=true→es'=renE r es
  | [],[],_=>rfl
  | (k, v) :: s,(k',v') :: t,h=>by
    simp only [entsFit] at h
    split at h
    · rename_i h1
      split at h
      · rename_i h2
        simp only [renE]
        rw [entsFit_iff h,kvEq_eq _ _ h1,kvEq_eq _ _ h2]
      · cases h
    · cases h
  | [],_ :: _,h=>by simp [entsFit] at h
  | _ :: _,[],h=>by simp [entsFit] at h
theorem fits_rel {ρ:Ren} {r:Nat→Nat} {lo:LO} {ko:KObj} {N:Nat} {o:Obj} (hf:fits r lo ko=true) (h:RelO ρ N ko o):RelO (fun b=>ρ (r b)) N (toObj lo) o:=by
  cases lo with
  | row ro cs =>
    cases ko with
    | cells n c ro' =>
      simp only [fits] at hf
      split at hf
      · rename_i hn
        have hn:=Nat.eq_of_beq_eq_true hn
        have hro:(ro=false→ro'=false)∧cellsFit r c 0 cs=true:=by
          split at hf
          · cases hf
          · rename_i hne
            refine ⟨fun e => ?_,hf⟩
            cases ro' with
            | false=>rfl
            | true=>exact absurd rfl (hne e)
        obtain ⟨hro,hc⟩:=hro
        obtain ⟨arr,elem,fz,h1,h2,h3,h4,h5⟩:=h
        refine ⟨arr,elem,fz,h1,by rw [← hn];exact h2,h3,fun e=>h4 (hro e),fun i k hk => ?_⟩
        rw [cellsOf_get,if_pos (Nat.zero_le _)] at hk
        have hg:=cellsFit_iff hc i k (by simpa using hk)
        rw [Nat.zero_add] at hg
        obtain ⟨h6,v,h7,h8⟩:=h5 i _ hg
        exact ⟨by rw [← storable_ren (r:=r)];exact h6,v,h7,RelV.unren _ _ h8⟩
      · cases hf
    | map _=>simp [fits] at hf
    | loop _=>simp [fits] at hf
    | deferred=>simp [fits] at hf
  | map es =>
    cases ko with
    | map es' =>
      have:=entsFit_iff (r:=r) (es:=es) (es':=es') hf
      subst this
      obtain ⟨ents,clock,h1,hk,l,h2,h3⟩:=h
      exact ⟨ents,clock,h1,keysOk_unren hk,l,h2,RelE.unren h3⟩
    | cells _ _ _=>simp [fits] at hf
    | loop _=>simp [fits] at hf
    | deferred=>simp [fits] at hf
theorem fits_writable {r:Nat→Nat} {lo:LO} {ko:KObj} (hf:fits r lo ko=true) (hw:(toObj lo).writable=true):ko.writable=true:=by
  cases lo with
  | row ro cs =>
    cases ko with
    | cells n c ro' =>
      cases ro with
      | true=>simp [toObj,KObj.writable] at hw
      | false =>
        cases ro' with
        | false=>rfl
        | true=>simp only [fits] at hf;split at hf <;> cases hf
    | map _=>rfl
    | loop _=>rfl
    | deferred=>rfl
  | map es =>
    cases ko with
    | map _=>rfl
    | cells _ _ _=>simp [fits] at hf
    | loop _=>rfl
    | deferred=>rfl
theorem heapOf_mem : ∀ {l:List (Nat × LO)} {b:Nat} {o:KObj},(heapOf l).get b=some o → ∃ lo,(b,lo) ∈ l∧o=toObj lo
  | [],b,o,h=>by simp [heapOf,PT.get_leaf] at h
  | (b',lo) :: r,b,o,h=>by
    simp only [heapOf] at h
    rw [PT.get_put] at h
    split at h
    · rename_i e;cases h;subst e;exact ⟨lo,by simp,rfl⟩
    · obtain ⟨lo',h1,h2⟩:=heapOf_mem h
      exact ⟨lo',by simp [h1],h2⟩
def goUp:Nat→List (Nat × LO)→Bool
  | _,[]=>true
  | n,(b,_) :: r=>match Nat.ble n b with
    | true=>goUp (Nat.succ b) r
    | false=>false
theorem goUp_le : ∀ {l:List (Nat × LO)} {n b:Nat} {lo:LO},goUp n l=true→(b,lo) ∈ l→n≤b
  | [],_,_,_,_,h=>by simp at h
  | (b',lo') :: r,n,b,lo,hg,h=>by
    simp only [goUp] at hg
    split at hg
    · rename_i hb
      have hb:=Nat.le_of_ble_eq_true hb
      rcases List.mem_cons.1 h with e | h
      · cases e;exact hb
      · have:=goUp_le hg h;omega
    · cases hg
theorem heapOf_get : ∀ {l:List (Nat × LO)} {n b:Nat} {lo:LO},goUp n l=true→(b,lo) ∈ l→(heapOf l).get b=some (toObj lo)
  | [],_,_,_,_,h=>by simp at h
  | (b',lo') :: r,n,b,lo,hg,h=>by
    simp only [goUp] at hg
    split at hg
    · simp only [heapOf]
      rw [PT.get_put]
      rcases List.mem_cons.1 h with e | h
      · cases e;simp
      · have:=goUp_le hg h
        rw [if_neg (by omega)]
        exact heapOf_get hg h
    · cases hg
end Go.Ev
namespace Go.Ev
structure Memo where
  f:FuncId
  args:List KV
  hin:List (Nat × LO)
  nx:Nat
  v:KV
  out:List (Nat × LO)
  nx':Nat
noncomputable def rOf (σ:PT Nat) (nxc nx b:Nat):Nat :=
  match Nat.blt b 200 with
  | true=>b
  | false=>match Nat.blt b nxc with
    | true=>match σ.get b with
      | some x=>x
      | none=>b
    | false=>Nat.add nx (Nat.sub b nxc)
mutual
noncomputable def gV:KV→KV→PT Nat→PT Nat
  | .ptr b _,.ptr b' _,σ=>σ.put b (some b')
  | .slice b _ _ _ _ _,.slice b' _ _ _ _ _,σ=>σ.put b (some b')
  | .map b,.map b',σ=>σ.put b (some b')
  | .func _ fs cs,.func _ fs' cs',σ=>gVs cs cs' (gVs fs fs' σ)
  | .iface _ x,.iface _ y,σ=>gV x y σ
  | .agg xs,.agg ys,σ=>gVs xs ys σ
  | .tuple xs,.tuple ys,σ=>gVs xs ys σ
  | _,_,σ=>σ
noncomputable def gVs:List KV→List KV→PT Nat→PT Nat
  | a :: s,b :: t,σ=>gVs s t (gV a b σ)
  | _,_,σ=>σ
end
noncomputable def gCells (c:PT KV):Nat→List KV→PT Nat→PT Nat
  | _,[],σ=>σ
  | i,v :: s,σ=>match c.get i with
    | some x=>gCells c (Nat.succ i) s (gV v x σ)
    | none=>σ
noncomputable def gEnts:List (KV × KV)→List (KV × KV)→PT Nat→PT Nat
  | (_,v) :: s,(_,v') :: t,σ=>gEnts s t (gV v v' σ)
  | _,_,σ=>σ
noncomputable def gBlocks (h:Heap):List (Nat × LO)→PT Nat→PT Nat
  | [],σ=>σ
  | (b, lo) :: s,σ=>match Nat.blt b 200 with
    | true=>gBlocks h s σ
    | false=>match σ.get b with
      | some b'=>match lo,h.get b' with
        | .row _ cs,some (.cells _ c _)=>gBlocks h s (gCells c 0 cs σ)
        | .map es,some (.map es')=>gBlocks h s (gEnts es es' σ)
        | _,_=>σ
      | none=>σ
noncomputable def blocksFit (r:Nat→Nat) (h:Heap):List (Nat × LO)→Bool
  | []=>true
  | (b,lo) :: s=>match h.get (r b) with
    | some ko=>match fits r lo ko with
      | true=>blocksFit r h s
      | false=>false
    | none=>false
noncomputable def injOk (r:Nat→Nat):List (Nat × LO)→PT Bool→Bool
  | [],_=>true
  | (b,_) :: s,seen=>match seen.get (r b) with
    | some _=>false
    | none=>injOk r s (seen.put (r b) (some true))
noncomputable def graft (r:Nat→Nat) (h:Heap):List (Nat × LO)→Heap
  | []=>h
  | (b,lo) :: s=>(graft r h s).put (r b) (some (toObj (renO r lo)))
noncomputable def useM (e:Memo) (args:List KV) (h:Heap) (nx:Nat):Option (KV × Heap × Nat) :=
  match kvsEq (renVs (rOf (gVs e.args args .leaf) e.nx nx) e.args) args with
  | false=>none
  | true=>match kvsEq (renVs (rOf (gBlocks h e.hin (gVs e.args args .leaf)) e.nx nx) e.args) args with
    | false=>none
    | true=>match blocksFit (rOf (gBlocks h e.hin (gVs e.args args .leaf)) e.nx nx) h e.hin with
      | false=>none
      | true=>match injOk (rOf (gBlocks h e.hin (gVs e.args args .leaf)) e.nx nx) e.hin .leaf with
        | false=>none
        | true=>some (renV (rOf (gBlocks h e.hin (gVs e.args args .leaf)) e.nx nx) e.v,graft (rOf (gBlocks h e.hin (gVs e.args args .leaf)) e.nx nx) h e.out,Nat.add nx (Nat.sub e.nx' e.nx))
def allB (p:Nat→LO→Bool):List (Nat × LO)→Bool
  | []=>true
  | (b,lo) :: r=>match p b lo with
    | true=>allB p r
    | false=>false
def isIn (lo:LO):Bool :=
  match lo with
  | .row ro _=>ro
  | .map _=>true
def isOut (lo:LO):Bool :=
  match lo with
  | .row ro _ => !ro
  | .map _=>true
def Memo.wf (e:Memo):Bool :=
  Nat.ble 200 e.nx && (Nat.ble e.nx e.nx' && (goUp 0 (e.hin ++ e.out) && (allB (fun b lo=>Nat.blt b e.nx && isIn lo) e.hin && allB (fun b lo=>Nat.ble e.nx b && (Nat.blt b e.nx' && isOut lo)) e.out)))
def EntryOk (E:Env) (e:Memo):Prop :=
  e.wf=true∧(∃ fn,E.P.funcs[e.f]?=some fn∧fn.body.isSome=true) ∧
  ∀ (w0:World) (K:Nat→Prop) (ρ:Ren) (w:World) (vargs:Array Value),Rel w0 K ρ (heapOf e.hin) e.nx w→RelVs ρ e.args vargs.toList →
  ∀ kind cs,CalmAt kind cs → ∃ fin w' ρ' v',Steps E.P (lone (Frame.enter E.P e.f vargs kind) cs w) (lone fin cs w')∧Fin E.P e.f kind fin w' v'∧Rel w0 K ρ' (heapOf (e.hin ++ e.out)) e.nx' w' ∧
    ρ.Sub ρ'∧(∀ b,b<e.nx→ρ b=none→ρ' b=none)∧RelV ρ' e.v v'
theorem allB_iff {p:Nat→LO→Bool} : ∀ {l:List (Nat × LO)} {b:Nat} {lo:LO},allB p l=true→(b,lo) ∈ l→p b lo=true
  | [],_,_,_,h=>by simp at h
  | (b',lo') :: r,b,lo,hg,h=>by
    simp only [allB] at hg
    split at hg
    · rename_i hb
      rcases List.mem_cons.1 h with e | h
      · cases e;exact hb
      · exact allB_iff hg h
    · cases hg
theorem blocksFit_iff {r:Nat→Nat} {h:Heap} : ∀ {l:List (Nat × LO)} {b:Nat} {lo:LO},blocksFit r h l=true→(b,lo) ∈ l → ∃ ko,h.get (r b)=some ko∧fits r lo ko=true
  | [],_,_,_,h=>by simp at h
  | (b',lo') :: t,b,lo,hg,h=>by
    simp only [blocksFit] at hg
    split at hg
    · rename_i ko hk
      split at hg
      · rename_i hf
        rcases List.mem_cons.1 h with e | h
        · cases e;exact ⟨ko,hk,hf⟩
        · exact blocksFit_iff hg h
      · cases hg
    · cases hg
theorem injOk_seen {r:Nat→Nat} : ∀ {l:List (Nat × LO)} {seen:PT Bool},injOk r l seen=true → ∀ x ∈ l,seen.get (r x.1)=none
  | [],_,_,x,hx=>by simp at hx
  | (b, lo) :: t,seen,h,x,hx=>by
    simp only [injOk] at h
    split at h
    · cases h
    · rename_i hn
      rcases List.mem_cons.1 hx with rfl | hx
      · exact hn
      · have:=injOk_seen h x hx
        rw [PT.get_put] at this
        split at this
        · cases this
        · exact this
theorem injOk_iff {r:Nat→Nat} : ∀ {l:List (Nat × LO)} {seen:PT Bool},injOk r l seen=true → ∀ x ∈ l,∀ y ∈ l,r x.1=r y.1→x.1=y.1
  | [],_,_,x,hx,_,_,_=>by simp at hx
  | (b, lo) :: t,seen,h,x,hx,y,hy,he=>by
    simp only [injOk] at h
    split at h
    · cases h
    · have hs : ∀ z ∈ t,r z.1≠r b:=fun z hz e=>by
        have:=injOk_seen h z hz
        rw [e,PT.get_put_eq] at this
        cases this
      rcases List.mem_cons.1 hx with rfl | hx1 <;> rcases List.mem_cons.1 hy with rfl | hy1
      · rfl
      · exact absurd he.symm (hs y hy1)
      · exact absurd he (hs x hx1)
      · exact injOk_iff h x hx1 y hy1 he
theorem graft_get {r:Nat→Nat} {h:Heap} {b:Nat} : ∀ {l:List (Nat × LO)},(∀ x ∈ l,r x.1≠b)→(graft r h l).get b=h.get b
  | [],_=>rfl
  | (b',lo) :: t,hn=>by
    simp only [graft]
    rw [PT.get_put_ne _ _ _ _ (fun e=>hn (b',lo) (by simp) e.symm)]
    exact graft_get fun x hx=>hn x (by simp [hx])
theorem graft_mem {r:Nat→Nat} {h:Heap} {b:Nat} {o:KObj} : ∀ {l:List (Nat × LO)},(graft r h l).get b=some o→(∃ bc lo,(bc,lo) ∈ l∧b=r bc∧o=toObj (renO r lo))∨h.get b=some o
  | [],hg=>.inr hg
  | (b',lo) :: t,hg=>by
    simp only [graft] at hg
    rw [PT.get_put] at hg
    split at hg
    · rename_i e;cases hg;exact .inl ⟨b',lo,by simp,e,rfl⟩
    · rcases graft_mem hg with ⟨bc,lo',h1,h2,h3⟩ | h1
      · exact .inl ⟨bc,lo',by simp [h1],h2,h3⟩
      · exact .inr h1
theorem isOut_writable {lo:LO} (h:isOut lo=true):(toObj lo).writable=true:=by
  cases lo with
  | row ro cs=>cases ro <;> simp_all [isOut,toObj,KObj.writable]
  | map es=>rfl
theorem isIn_map {lo:LO} (h:isIn lo=true) (hw:(toObj lo).writable=true) : ∃ es,lo=.map es:=by
  cases lo with
  | row ro cs=>cases ro <;> simp_all [isIn,toObj,KObj.writable]
  | map es=>exact ⟨es,rfl⟩
section
variable {E:Env}
theorem memo_ok {e:Memo} (he:EntryOk E e) {args:List KV} {h:Heap} {nx:Nat} {v:KV} {h':Heap} {nx':Nat} (hu:useM e args h nx=some (v,h',nx')) {w0:World} {K:Nat→Prop} {ρ:Ren} {w:World} {vargs:Array Value} (rel:Rel w0 K ρ h nx w) (ha:RelVs ρ args vargs.toList)
    {kind:CallKind} {cs:List Frame} (hcalm:CalmAt kind cs) : ∃ fin w' ρ' v',Steps E.P (lone (Frame.enter E.P e.f vargs kind) cs w) (lone fin cs w')∧Fin E.P e.f kind fin w' v'∧Rel w0 K ρ' h' nx' w'∧Stp ρ h nx ρ' h' nx'∧RelV ρ' v v':=by
  obtain ⟨hwf,_,hrun⟩:=he
  simp only [Memo.wf,Bool.and_eq_true] at hwf
  obtain ⟨w1,w2,w3,w4,w5⟩:=hwf
  have w1:=Nat.le_of_ble_eq_true w1
  have w2:=Nat.le_of_ble_eq_true w2
  unfold useM at hu
  split at hu
  · cases hu
  · generalize gBlocks h e.hin (gVs e.args args .leaf)=σ at hu
    split at hu
    · cases hu
    · rename_i hargs
      split at hu
      · cases hu
      · rename_i hfit
        split at hu
        · cases hu
        · rename_i hinj
          generalize hr0:rOf σ e.nx nx=r at hu hargs hfit hinj
          cases hu
          have hargs:=kvsEq_eq _ _ hargs
          have hlow : ∀ b,b<200→r b=b:=fun b hb=>by
            rw [← hr0];simp only [rOf]
            rw [show Nat.blt b 200=true by simpa [Nat.blt_eq] using hb]
          have hhigh : ∀ b,e.nx≤b→r b=nx+(b - e.nx):=fun b hb=>by
            rw [← hr0];simp only [rOf]
            rw [show Nat.blt b 200=false by rw [Bool.eq_false_iff];simp [Nat.blt_eq];omega,show Nat.blt b e.nx=false by rw [Bool.eq_false_iff];simp [Nat.blt_eq];omega]
            rfl
          have hnx:200≤nx:=by
            obtain ⟨N,hg⟩:=rel.glob 199 (by decide)
            rcases Nat.lt_or_ge 199 nx with h1 | h1
            · exact h1
            · rw [rel.fresh 199 h1] at hg;cases hg
          have hin : ∀ b lo,(b,lo) ∈ e.hin→b<e.nx∧isIn lo=true:=fun b lo hm=>by
            have:=allB_iff w4 hm
            simp only [Bool.and_eq_true,Nat.blt_eq] at this
            exact this
          have hout : ∀ b lo,(b,lo) ∈ e.out→e.nx≤b∧b<e.nx'∧isOut lo=true:=fun b lo hm=>by
            have:=allB_iff w5 hm
            simp only [Bool.and_eq_true,Nat.blt_eq] at this
            exact ⟨Nat.le_of_ble_eq_true this.1,this.2⟩
          have blk : ∀ b o,(heapOf e.hin).get b=some o → ∃ lo ko,(b,lo) ∈ e.hin∧o=toObj lo∧h.get (r b)=some ko∧fits r lo ko=true:=fun b o hb=>by
            obtain ⟨lo,h1,h2⟩:=heapOf_mem hb
            obtain ⟨ko,h3,h4⟩:=blocksFit_iff hfit h1
            exact ⟨lo,ko,h1,h2,h3,h4⟩
          have hinjr : ∀ b b' o o',(heapOf e.hin).get b=some o→(heapOf e.hin).get b'=some o'→r b=r b'→b=b':=fun b b' o o' hb hb' hrr=>by
            obtain ⟨lo,h1,_⟩:=heapOf_mem hb
            obtain ⟨lo',h2,_⟩:=heapOf_mem hb'
            exact injOk_iff hinj (b,lo) h1 (b',lo') h2 hrr
          let ρc:Ren:=fun b=>ρ (r b)
          let Kc:Nat→Prop:=fun c=>c<w.heap.size ∧ ∀ b es N,(heapOf e.hin).get b=some (.map es)→ρc b=some (c,N)→False
          have hKc : ∀ c,K c→Kc c:=fun c hk=>by
            refine ⟨by have:=(rel.kept c hk).1;have:=rel.grown;omega,fun b es N hb hrb => ?_⟩
            obtain ⟨lo,ko,g1,g2,g3,g4⟩:=blk b _ hb
            obtain ⟨o',_,_,g5⟩:=rel.img (r b) ko c N g3 hrb
            exact g5 (fits_writable g4 (by rw [← g2];rfl)) hk
          have relc:Rel w Kc ρc (heapOf e.hin) e.nx w:={
            img:=fun b o c N hb hrb=>by
              obtain ⟨lo,ko,g1,g2,g3,g4⟩:=blk b o hb
              obtain ⟨o',g5,g6,_⟩:=rel.img (r b) ko c N g3 hrb
              refine ⟨o',g5,by rw [g2];exact fits_rel g4 g6,fun hw hk => ?_⟩
              obtain ⟨es,hes⟩:=isIn_map (hin b lo g1).2 (by rw [← g2];exact hw)
              exact hk.2 b es N (by rw [hb,g2,hes];rfl) hrb
            low:=fun b o hb=>by
              obtain ⟨lo,h1,_⟩:=heapOf_mem hb
              exact (hin b lo h1).1
            fresh:=fun b hb=>rel.fresh (r b) (by rw [hhigh b hb];omega)
            inj:=fun b b' o o' c N N' h1 h2 h3 h4=>by
              obtain ⟨_,ko,_,_,g3,_⟩:=blk b o h1
              obtain ⟨_,ko',_,_,g3',_⟩:=blk b' o' h2
              exact hinjr b b' o o' h1 h2 (rel.inj (r b) (r b') ko ko' c N N' g3 g3' h3 h4)
            kept:=fun c hk=>⟨hk.1,rfl⟩
            grown:=Nat.le_refl _
            os:=rfl
            output:=rfl
            glob:=fun g hg=>by
              obtain ⟨N,hN⟩:=rel.glob g hg
              exact ⟨N,by show ρ (r g)=_;rw [hlow g hg];exact hN⟩ }
          have hac:RelVs ρc e.args vargs.toList:=RelVs.unren _ _ (by rw [hargs];exact ha)
          obtain ⟨fin,w',ρc',v',s1,s2,relc',hsub,hpend,hv⟩:=hrun w Kc ρc w vargs relc hac kind cs hcalm
          let ρ':Ren:=fun b=>if b<nx then ρ b else ρc' (b - nx+e.nx)
          have hold : ∀ b,b<nx→ρ' b=ρ b:=fun b hb=>if_pos hb
          have hnew : ∀ b,nx≤b→ρ' b=ρc' (b - nx+e.nx):=fun b hb=>if_neg (by omega)
          have hss:ρ.Sub ρ':=fun b x hb=>by
            rcases Nat.lt_or_ge b nx with h1 | h1
            · rw [hold b h1];exact hb
            · rw [rel.fresh b h1] at hb;cases hb
          have tr : ∀ b x,ρc' b=some x→ρ' (r b)=some x:=fun b x hb=>by
            rcases Nat.lt_or_ge b e.nx with h1 | h1
            · cases hρ:ρc b with
              | none=>rw [hpend b h1 hρ] at hb;cases hb
              | some y =>
                have:=hsub b y hρ
                rw [hb] at this
                cases this
                exact hss _ _ hρ
            · rw [hhigh b h1,hnew _ (by omega),show nx+(b - e.nx) - nx+e.nx=b by omega]
              exact hb
          have hgl : ∀ b,b<nx→(graft r h e.out).get b=h.get b:=fun b hb=>graft_get fun x hx hrx=>by
            have h1:=(hout x.1 x.2 hx).1
            rw [hhigh x.1 h1] at hrx
            omega
          have hgn : ∀ b o,nx≤b→(graft r h e.out).get b=some o → ∃ lo,(b - nx+e.nx,lo) ∈ e.out∧o=toObj (renO r lo):=fun b o hb hg=>by
            rcases graft_mem hg with ⟨bc,lo,h1,h2,h3⟩ | h1
            · have h4:=(hout bc lo h1).1
              rw [hhigh bc h4] at h2
              have:b - nx+e.nx=bc:=by omega
              exact ⟨lo,by rw [this];exact h1,h3⟩
            · have:=rel.low b o h1;omega
          have hoc : ∀ bc lo,(bc,lo) ∈ e.out→(heapOf (e.hin ++ e.out)).get bc=some (toObj lo):=fun bc lo hm=>heapOf_get w3 (List.mem_append.2 (.inr hm))
          have hic : ∀ bc lo,(bc,lo) ∈ e.hin→(heapOf (e.hin ++ e.out)).get bc=some (toObj lo):=fun bc lo hm=>heapOf_get w3 (List.mem_append.2 (.inl hm))
          have apart : ∀ b o c N b2 lo N2,b<nx→h.get b=some o→ρ b=some (c,N)→(b2,lo) ∈ e.out→ρc' b2=some (c,N2)→False:=fun b o c N b2 lo N2 hb hg hrb hm hr2=>by
            obtain ⟨g1,_,g3⟩:=hout b2 lo hm
            obtain ⟨o',_,_,g4⟩:=relc'.img b2 _ c N2 (hoc b2 lo hm) hr2
            refine g4 (isOut_writable g3) ⟨rel.lt hg hrb,fun b3 es N3 hb3 hr3 => ?_⟩
            obtain ⟨lo3,h1,h2⟩:=heapOf_mem hb3
            have:=relc'.inj b2 b3 _ _ c N2 N3 (hoc b2 lo hm) (hic b3 lo3 h1) hr2 (hsub _ _ hr3)
            have:=(hin b3 lo3 h1).1
            omega
          refine ⟨fin,w',ρ',v',s1,s2,?_,⟨hss,?_,fun b hb hn=>⟨by rw [hold b hb];exact hn,hgl b hb⟩⟩,RelV.ren tr _ _ hv⟩
          · exact {
              img:=fun b o c N hb hrb=>by
                rcases Nat.lt_or_ge b nx with hlt | hge
                · rw [hgl b hlt] at hb
                  rw [hold b hlt] at hrb
                  obtain ⟨o',g1,g2,g3⟩:=rel.img b o c N hb hrb
                  by_cases hex : ∃ bc es Nc,(heapOf e.hin).get bc=some (.map es)∧ρc bc=some (c,Nc)
                  · obtain ⟨bc,es,Nc,q1,q2⟩:=hex
                    obtain ⟨lo,ko,q3,q4,q5,q6⟩:=blk bc _ q1
                    have hbb:=rel.inj b (r bc) o ko c N Nc hb q5 hrb q2
                    subst hbb
                    rw [hb] at q5;cases q5
                    have:(c,N)=(c,Nc):=by
                      have:=hrb.symm.trans q2
                      exact Option.some.inj this
                    cases this
                    have hlo:lo=.map es:=by
                      cases lo with
                      | row _ _=>cases q4
                      | map es'=>cases q4;rfl
                    subst hlo
                    obtain ⟨o2,p1,p2,_⟩:=relc'.img bc _ c N (hic bc _ q3) (hsub _ _ q2)
                    refine ⟨o2,p1,?_,g3⟩
                    cases o with
                    | map es' =>
                      have:=entsFit_iff (r:=r) (es:=es) (es':=es') q6
                      subst this
                      exact toObj_ren (lo:=.map es) tr p2
                    | cells _ _ _=>simp [fits] at q6
                    | loop _=>simp [fits] at q6
                    | deferred=>simp [fits] at q6
                  · have hk:Kc c:=⟨rel.lt hb hrb,fun bc es Nc q1 q2=>hex ⟨bc,es,Nc,q1,q2⟩⟩
                    exact ⟨o',(relc'.kept c hk).2.trans g1,g2.mono hss,g3⟩
                · obtain ⟨lo,h1,rfl⟩:=hgn b o hge hb
                  rw [hnew b hge] at hrb
                  obtain ⟨o2,p1,p2,p3⟩:=relc'.img _ _ c N (hoc _ _ h1) hrb
                  exact ⟨o2,p1,toObj_ren tr p2,fun _ hk=>p3 (isOut_writable (hout _ _ h1).2.2) (hKc c hk)⟩
              low:=fun b o hb=>by
                rcases Nat.lt_or_ge b nx with hlt | hge
                · show b<nx+(e.nx' - e.nx);omega
                · obtain ⟨lo,h1,_⟩:=hgn b o hge hb
                  have:=(hout _ _ h1).2.1
                  show b<nx+(e.nx' - e.nx);omega
              fresh:=fun b hb=>by
                have hb:nx+(e.nx' - e.nx)≤b:=hb
                rw [hnew b (by omega)]
                exact relc'.fresh _ (by omega)
              inj:=fun b b' o o' c N N' h1 h2 h3 h4=>by
                rcases Nat.lt_or_ge b nx with hlt | hge <;> rcases Nat.lt_or_ge b' nx with hlt' | hge'
                · rw [hgl b hlt] at h1;rw [hgl b' hlt'] at h2
                  rw [hold b hlt] at h3;rw [hold b' hlt'] at h4
                  exact rel.inj b b' o o' c N N' h1 h2 h3 h4
                · rw [hgl b hlt] at h1;rw [hold b hlt] at h3;rw [hnew b' hge'] at h4
                  obtain ⟨lo,q1,_⟩:=hgn b' o' hge' h2
                  exact (apart b o c N _ lo N' hlt h1 h3 q1 h4).elim
                · rw [hgl b' hlt'] at h2;rw [hold b' hlt'] at h4;rw [hnew b hge] at h3
                  obtain ⟨lo,q1,_⟩:=hgn b o hge h1
                  exact (apart b' o' c N' _ lo N hlt' h2 h4 q1 h3).elim
                · rw [hnew b hge] at h3;rw [hnew b' hge'] at h4
                  obtain ⟨lo,q1,_⟩:=hgn b o hge h1
                  obtain ⟨lo',q1',_⟩:=hgn b' o' hge' h2
                  have:=relc'.inj _ _ _ _ c N N' (hoc _ _ q1) (hoc _ _ q1') h3 h4
                  omega
              kept:=fun c hk=>by
                obtain ⟨g1,g2⟩:=rel.kept c hk
                exact ⟨g1,(relc'.kept c (hKc c hk)).2.trans g2⟩
              grown:=Nat.le_trans rel.grown relc'.grown
              os:=relc'.os.trans rel.os
              output:=relc'.output.trans rel.output
              glob:=fun g hg=>by
                obtain ⟨N,hN⟩:=rel.glob g hg
                exact ⟨N,hss _ _ hN⟩ }
          · show nx≤nx+(e.nx' - e.nx);omega
noncomputable def findM:List Memo→FuncId→List KV→Heap→Nat→Option (KV × Heap × Nat)
  | [],_,_,_,_=>none
  | e :: r,f,args,h,nx=>match Nat.beq e.f f with
    | true=>match useM e args h nx with
      | some x=>some x
      | none=>findM r f args h nx
    | false=>findM r f args h nx
noncomputable def memoCall (ms:List Memo) (call:CallF):CallF:=fun f args h nx =>
  match findM ms f args h nx with
  | some (v,h,nx)=>.ok v h nx
  | none=>call f args h nx
theorem findM_iff : ∀ {ms:List Memo} {f:FuncId} {args:List KV} {h:Heap} {nx:Nat} {x:KV × Heap × Nat},findM ms f args h nx=some x → ∃ e ∈ ms,e.f=f∧useM e args h nx=some x
  | [],f,args,h,nx,x,hf=>by simp [findM] at hf
  | e :: r,f,args,h,nx,x,hf=>by
    have rest:findM r f args h nx=some x → ∃ e' ∈ e :: r,e'.f=f∧useM e' args h nx=some x:=fun hf=>by
      obtain ⟨e',h1,h2⟩:=findM_iff hf
      exact ⟨e',by simp [h1],h2⟩
    simp only [findM] at hf
    split at hf
    · rename_i hb
      split at hf
      · rename_i hu
        cases hf
        exact ⟨e,by simp,Nat.eq_of_beq_eq_true hb,hu⟩
      · exact rest hf
    · exact rest hf
theorem memoCall_ok {ms:List Memo} (hms : ∀ e ∈ ms,EntryOk E e) {call:CallF} (hc:CallOk E call):CallOk E (memoCall ms call):=by
  intro f args h nx v h' nx' he
  unfold memoCall at he
  split at he
  · rename_i v1 h1 nx1 hf
    cases he
    obtain ⟨e,hm,rfl,hu⟩:=findM_iff hf
    exact ⟨(hms e hm).2.1,fun w0 K ρ w vargs rel ha kind cs hcalm=>memo_ok (hms e hm) hu rel ha hcalm⟩
  · exact hc f args h nx v h' nx' he
noncomputable def levM (E:Env) (draw:DrawF) (ms:List Memo) (n:Nat):Lv :=
  Nat.rec (motive:=fun _=>Lv) ⟨fun _=>.fail,fun _ _ _ _=>.fail⟩
    (fun _ v=>⟨execBody E v.ex (partsOf E draw v),memoCall ms (callBody E v.ex v.call)⟩) n
theorem levM_ok {draw:DrawF} {ms:List Memo} (hE:ExtOk E) (hN:NamesOk E.P) (hD:DrawsOk E draw) (hms : ∀ e ∈ ms,EntryOk E e) : ∀ n,ExOk E (levM E draw ms n).ex∧CallOk E (levM E draw ms n).call:=by
  intro n
  induction n with
  | zero =>
    refine ⟨?_,?_⟩
    · intro t e tm' df' h' nx' he
      cases he
    · intro f args h nx v h' nx' he
      cases he
  | succ n ih =>
    obtain ⟨ih1,ih2⟩:=ih
    have hy:=yield_ok ih1
    exact ⟨code_ok hE hN (p:=partsOf E draw (levM E draw ms n)) ih2 hy (hD _ _ _ ih2 hy) (range_ok hN ih2 ih1 _ rfl) ih1,memoCall_ok hms (call_ok hN ih2 ih1)⟩
noncomputable def runM (E:Env) (ms:List Memo) (n:Nat) (e:Memo):Bool :=
  match (levM E (drawP E) ms n).call e.f e.args (heapOf e.hin) e.nx with
  | .ok v h' nx'=>kvEq v e.v && (Nat.beq nx' e.nx' && (blocksFit (fun b=>b) h' e.hin && blocksFit (fun b=>b) h' e.out))
  | .fail=>false
theorem entry_ok {ms:List Memo} (hE:ExtOk E) (hN:NamesOk E.P) (hm:E.P.follows .mixedOrders=true) (hms : ∀ e ∈ ms,EntryOk E e) {n:Nat} {e:Memo} (hw:e.wf=true) (hr:runM E ms n e=true):EntryOk E e:=by
  unfold runM at hr
  split at hr
  · rename_i v h' nx' hc
    simp only [Bool.and_eq_true] at hr
    obtain ⟨h1,h2,h3,h4⟩:=hr
    have h1:=kvEq_eq _ _ h1
    have h2:=Nat.eq_of_beq_eq_true h2
    subst h1;subst h2
    obtain ⟨hfn,hs⟩:=(levM_ok hE hN (drawP_ok hE hN hm) hms n).2 _ _ _ _ _ _ _ hc
    refine ⟨hw,hfn,fun w0 K ρ w vargs rel ha kind cs hcalm => ?_⟩
    obtain ⟨fin,w',ρ',v',s1,s2,s3,s4,s5⟩:=hs w0 K ρ w vargs rel ha kind cs hcalm
    have blk : ∀ b o,(heapOf (e.hin ++ e.out)).get b=some o → ∃ lo ko,o=toObj lo∧h'.get b=some ko∧fits (fun b=>b) lo ko=true:=fun b o hb=>by
      obtain ⟨lo,hm,ho⟩:=heapOf_mem hb
      rcases List.mem_append.1 hm with hm | hm
      · obtain ⟨ko,g1,g2⟩:=blocksFit_iff h3 hm
        exact ⟨lo,ko,ho,g1,g2⟩
      · obtain ⟨ko,g1,g2⟩:=blocksFit_iff h4 hm
        exact ⟨lo,ko,ho,g1,g2⟩
    refine ⟨fin,w',ρ',v',s1,s2,?_,s4.sub,fun b hb hn=>(s4.pend b hb hn).1,s5⟩
    exact {
      img:=fun b o c N hb hrb=>by
        obtain ⟨lo,ko,rfl,g1,g2⟩:=blk b o hb
        obtain ⟨o',g3,g4,g5⟩:=s3.img b ko c N g1 hrb
        exact ⟨o',g3,fits_rel g2 g4,fun hw=>g5 (fits_writable g2 hw)⟩
      low:=fun b o hb=>by
        obtain ⟨_,ko,_,g1,_⟩:=blk b o hb
        exact s3.low b ko g1
      fresh:=s3.fresh
      inj:=fun b b' o o' c N N' q1 q2 q3 q4=>by
        obtain ⟨_,ko,_,g1,_⟩:=blk b o q1
        obtain ⟨_,ko',_,g1',_⟩:=blk b' o' q2
        exact s3.inj b b' ko ko' c N N' g1 g1' q3 q4
      kept:=s3.kept
      grown:=s3.grown
      os:=s3.os
      output:=s3.output
      glob:=s3.glob }
  · cases hr
end
end Go.Ev
