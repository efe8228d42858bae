/- The evaluator of closed runs, part 1 of 4: an interpreter of the model's code over values with abstract blocks, and the proof that what it answers is what the machine does. Conditions: those that its theorems state. -/
import GoSem.Step
import Derived.Laws.CopyRow
import Derived.Calls
import Derived.Laws.Entries
import Derived.Laws.Strings
import GoSem.Op.String
import GoSem.Dispatch
import Derived.Laws.StructEq
namespace Go.Ev
inductive PT (α:Type) where
  | leaf:PT α
  | node (l:PT α) (v:Option α) (r:PT α):PT α
noncomputable def PT.get {α:Type} (t:PT α):Nat→Option α :=
  PT.rec (motive:=fun _=>Nat→Option α) (fun _=>none)
    (fun _ v _ gl gr n=>Nat.rec v (fun m _=>Bool.rec (gr (Nat.div m 2)) (gl (Nat.div m 2)) (Nat.beq (Nat.mod m 2) 0)) n) t
noncomputable def PT.upd {α:Type} (a:Option α) (fuel:Nat):PT α→Nat→PT α :=
  Nat.rec (motive:=fun _=>PT α→Nat→PT α) (fun t _=>t)
   (fun _ ih t n =>
     PT.rec (motive:=fun _=>PT α)
       (Nat.rec (.node .leaf a .leaf) (fun m _=>Bool.rec (.node .leaf none (ih .leaf (Nat.div m 2))) (.node (ih .leaf (Nat.div m 2)) none .leaf) (Nat.beq (Nat.mod m 2) 0)) n)
       (fun l v r _ _=>Nat.rec (.node l a r) (fun m _=>Bool.rec (.node l v (ih r (Nat.div m 2))) (.node (ih l (Nat.div m 2)) v r) (Nat.beq (Nat.mod m 2) 0)) n) t) fuel
noncomputable def PT.put {α:Type} (t:PT α) (n:Nat) (a:Option α):PT α:=PT.upd a (Nat.succ n) t n
theorem PT.get_leaf {α:Type} (n:Nat):(PT.leaf:PT α).get n=none:=rfl
theorem PT.get_zero {α:Type} (l r:PT α) (v:Option α):(PT.node l v r).get 0=v:=rfl
theorem PT.get_even {α:Type} (l r:PT α) (v:Option α) (m:Nat) (h:m % 2=0):(PT.node l v r).get (m+1)=l.get (m / 2):=by
  show (Bool.rec (r.get (Nat.div m 2)) (l.get (Nat.div m 2)) (Nat.beq (Nat.mod m 2) 0):Option α)=_
  have:Nat.beq (Nat.mod m 2) 0=true:=Nat.beq_eq ▸ h
  rw [this];rfl
theorem PT.get_odd {α:Type} (l r:PT α) (v:Option α) (m:Nat) (h:m % 2=1):(PT.node l v r).get (m+1)=r.get (m / 2):=by
  show (Bool.rec (r.get (Nat.div m 2)) (l.get (Nat.div m 2)) (Nat.beq (Nat.mod m 2) 0):Option α)=_
  have:Nat.beq (Nat.mod m 2) 0=false:=by
    cases e:Nat.beq (Nat.mod m 2) 0 with
    | false=>rfl
    | true=>have:=Nat.eq_of_beq_eq_true e;have h':m % 2=0:=this;omega
  rw [this];rfl
noncomputable def PT.left {α:Type} : PT α→PT α | .leaf=>.leaf | .node l _ _=>l
noncomputable def PT.mid {α:Type} : PT α→Option α | .leaf=>none | .node _ v _=>v
noncomputable def PT.right {α:Type} : PT α→PT α | .leaf=>.leaf | .node _ _ r=>r
theorem PT.get_parts {α:Type} (t:PT α) (n:Nat):t.get n=(PT.node t.left t.mid t.right).get n:=by
  cases t with
  | node l v r=>rfl
  | leaf =>
    cases n with
    | zero=>rfl
    | succ m =>
      rcases Nat.mod_two_eq_zero_or_one m with h | h
      · rw [PT.get_even _ _ _ _ h];rfl
      · rw [PT.get_odd _ _ _ _ h];rfl
theorem PT.upd_zero {α:Type} (a:Option α) (f:Nat) (t:PT α):PT.upd a (f+1) t 0=.node t.left a t.right:=by
  cases t <;> rfl
theorem PT.upd_even {α:Type} (a:Option α) (f:Nat) (t:PT α) (m:Nat) (h:m % 2=0) :
    PT.upd a (f+1) t (m+1)=.node (PT.upd a f t.left (m / 2)) t.mid t.right:=by
  have hb:Nat.beq (Nat.mod m 2) 0=true:=Nat.beq_eq ▸ h
  cases t with
  | leaf =>
    show (Bool.rec (PT.node .leaf none (PT.upd a f .leaf (Nat.div m 2))) (PT.node (PT.upd a f .leaf (Nat.div m 2)) none .leaf) (Nat.beq (Nat.mod m 2) 0):PT α)=_
    rw [hb];rfl
  | node l v r =>
    show (Bool.rec (PT.node l v (PT.upd a f r (Nat.div m 2))) (PT.node (PT.upd a f l (Nat.div m 2)) v r) (Nat.beq (Nat.mod m 2) 0):PT α)=_
    rw [hb];rfl
theorem PT.upd_odd {α:Type} (a:Option α) (f:Nat) (t:PT α) (m:Nat) (h:m % 2=1) :
    PT.upd a (f+1) t (m+1)=.node t.left t.mid (PT.upd a f t.right (m / 2)):=by
  have hb:Nat.beq (Nat.mod m 2) 0=false:=by
    cases e:Nat.beq (Nat.mod m 2) 0 with
    | false=>rfl
    | true=>have:=Nat.eq_of_beq_eq_true e;have h':m % 2=0:=this;omega
  cases t with
  | leaf =>
    show (Bool.rec (PT.node .leaf none (PT.upd a f .leaf (Nat.div m 2))) (PT.node (PT.upd a f .leaf (Nat.div m 2)) none .leaf) (Nat.beq (Nat.mod m 2) 0):PT α)=_
    rw [hb];rfl
  | node l v r =>
    show (Bool.rec (PT.node l v (PT.upd a f r (Nat.div m 2))) (PT.node (PT.upd a f l (Nat.div m 2)) v r) (Nat.beq (Nat.mod m 2) 0):PT α)=_
    rw [hb];rfl
theorem PT.get_upd {α:Type} (a:Option α) : ∀ (f:Nat) (t:PT α) (n m:Nat),n<f→(PT.upd a f t n).get m=if m=n then a else t.get m:=by
  intro f
  induction f with
  | zero=>intro t n m h;omega
  | succ f ih =>
    intro t n m h
    rw [PT.get_parts t m]
    cases n with
    | zero =>
      rw [PT.upd_zero]
      cases m with
      | zero=>rw [PT.get_zero,if_pos rfl]
      | succ m =>
        rw [if_neg (by omega)]
        rcases Nat.mod_two_eq_zero_or_one m with hm | hm
        · rw [PT.get_even _ _ _ _ hm,PT.get_even _ _ _ _ hm]
        · rw [PT.get_odd _ _ _ _ hm,PT.get_odd _ _ _ _ hm]
    | succ n =>
      rcases Nat.mod_two_eq_zero_or_one n with hn | hn
      · rw [PT.upd_even _ _ _ _ hn]
        cases m with
        | zero=>rw [PT.get_zero,PT.get_zero,if_neg (by omega)]
        | succ m =>
          rcases Nat.mod_two_eq_zero_or_one m with hm | hm
          · rw [PT.get_even _ _ _ _ hm,PT.get_even _ _ _ _ hm,ih _ _ _ (by omega)]
            by_cases e:m=n
            · subst e;rw [if_pos rfl,if_pos rfl]
            · rw [if_neg (by omega),if_neg (by omega)]
          · rw [PT.get_odd _ _ _ _ hm,PT.get_odd _ _ _ _ hm,if_neg (by intro e;injection e with e;omega)]
      · rw [PT.upd_odd _ _ _ _ hn]
        cases m with
        | zero=>rw [PT.get_zero,PT.get_zero,if_neg (by omega)]
        | succ m =>
          rcases Nat.mod_two_eq_zero_or_one m with hm | hm
          · rw [PT.get_even _ _ _ _ hm,PT.get_even _ _ _ _ hm,if_neg (by intro e;injection e with e;omega)]
          · rw [PT.get_odd _ _ _ _ hm,PT.get_odd _ _ _ _ hm,ih _ _ _ (by omega)]
            by_cases e:m=n
            · subst e;rw [if_pos rfl,if_pos rfl]
            · rw [if_neg (by omega),if_neg (by omega)]
theorem PT.get_put {α:Type} (t:PT α) (n m:Nat) (a:Option α):(t.put n a).get m=if m=n then a else t.get m :=
  PT.get_upd a _ t n m (Nat.lt_succ_self n)
theorem PT.get_put_eq {α:Type} (t:PT α) (n:Nat) (a:Option α):(t.put n a).get n=a:=by rw [PT.get_put,if_pos rfl]
theorem PT.get_put_ne {α:Type} (t:PT α) (n m:Nat) (a:Option α) (h:m≠n):(t.put n a).get m=t.get m:=by rw [PT.get_put,if_neg h]
end Go.Ev
namespace Go.Ev
inductive KV where
  | int (k:IntKind) (n:Int)
  | bool (b:Bool)
  | str (len n:Nat)
  | ptr (b off:Nat)
  | nilptr
  | slice (b off len cap es:Nat) (ex:Bool)
  | eslice
  | nilslice
  | map (b:Nat)
  | nilmap
  | func (fn:Fn) (first captured:List KV)
  | nilfunc
  | iface (t:TypeId) (v:KV)
  | niliface
  | agg (cs:List KV)
  | tuple (vs:List KV)
  deriving Inhabited
inductive KDef where
  | collected (b:Nat)
  | call (fn:Fn) (captured args:List KV)
structure KLoop where
  ready:Bool
  done:Bool
  jump:Option Code
  fn:FuncId
  size:Nat
  tm:PT KV
  params:List Tmp
  assign:Code
  body:Code
  round:Option Nat
inductive KObj where
  | cells (n:Nat) (c:PT KV) (ro:Bool)
  | map (es:List (KV × KV))
  | loop (l:KLoop)
  | deferred
abbrev Heap:=PT KObj
def U:KV:=.tuple []
abbrev Ren:=Nat→Option (Nat × Nat)
def bytesL:Nat→Nat→List UInt8
  | 0,_=>[]
  | l+1,n=>UInt8.ofNat (n % 256) :: bytesL l (n / 256)
def strOf (l n:Nat):ByteArray:=⟨(bytesL l n).toArray⟩
def RelFn (ρ:Ren) (fn fn':Fn):Prop :=
  match fn with
  | .yield l => ∃ c N,ρ l=some (c,N)∧fn'=.yield c
  | fn=>fn'=fn
mutual
def RelV (ρ:Ren):KV→Value→Prop
  | .int k n,v=>v=.int k n
  | .bool b,v=>v=.bool b
  | .str l n,v=>n<256 ^ l∧v=.string (strOf l n)
  | .ptr b off,v => ∃ c N,ρ b=some (c,N)∧v=.pointer (some ⟨c,off,none⟩)
  | .nilptr,v=>v=.pointer none
  | .slice b off len cap es ex,v => ∃ c N cap',ρ b=some (c,N)∧v=.slice (some ⟨c,off,none⟩) len cap'∧off+cap'*es≤N∧cap≤cap'∧(ex=true→cap'=cap)∧len≤cap
  | .eslice,v => ∃ a cap',v=.slice (some a) 0 cap'
  | .nilslice,v=>v=.slice none 0 0
  | .map b,v => ∃ c N,ρ b=some (c,N)∧v=.map (some c)
  | .nilmap,v=>v=.map none
  | .func fn fs cs,v => ∃ fn' fs' cs',RelFn ρ fn fn'∧v=.func fn' fs' cs'∧RelVs ρ fs fs'.toList∧RelVs ρ cs cs'.toList
  | .nilfunc,v=>v=.nilFunc
  | .iface t x,v => ∃ x',v=.iface t x'∧RelV ρ x x'
  | .niliface,v=>v=.nilIface
  | .agg cs,v => ∃ cs',v=.agg cs'∧RelVs ρ cs cs'.toList
  | .tuple cs,v => ∃ cs',v=.tuple cs'∧RelVs ρ cs cs'.toList
def RelVs (ρ:Ren):List KV→List Value→Prop
  | [],l=>l=[]
  | a :: r,l => ∃ x s,l=x :: s∧RelV ρ a x∧RelVs ρ r s
end
def Ren.Sub (ρ ρ':Ren):Prop:=∀ b x,ρ b=some x→ρ' b=some x
theorem Ren.Sub.refl (ρ:Ren):ρ.Sub ρ:=fun _ _ h=>h
theorem Ren.Sub.trans {ρ ρ' ρ'':Ren} (h:ρ.Sub ρ') (h':ρ'.Sub ρ''):ρ.Sub ρ'':=fun b x hx=>h' b x (h b x hx)
theorem RelFn.mono {ρ ρ':Ren} (hs:ρ.Sub ρ') {fn fn':Fn} (h:RelFn ρ fn fn'):RelFn ρ' fn fn':=by
  cases fn <;> simp only [RelFn] at h ⊢ <;> try exact h
  obtain ⟨c,N,h1,h2⟩:=h
  exact ⟨c,N,hs _ _ h1,h2⟩
mutual
theorem RelV.mono {ρ ρ':Ren} (hs:ρ.Sub ρ') : ∀ (k:KV) (v:Value),RelV ρ k v→RelV ρ' k v
  | .int _ _,_,h=>h
  | .bool _,_,h=>h
  | .str _ _,_,h=>h
  | .ptr _ _,_,⟨c,N,h1,h2⟩=>⟨c,N,hs _ _ h1,h2⟩
  | .nilptr,_,h=>h
  | .slice ..,_,⟨c,N,cap',h1,h2⟩=>⟨c,N,cap',hs _ _ h1,h2⟩
  | .eslice,_,h=>h
  | .nilslice,_,h=>h
  | .map _,_,⟨c,N,h1,h2⟩=>⟨c,N,hs _ _ h1,h2⟩
  | .nilmap,_,h=>h
  | .func _ fs cs,_,⟨fn',fs',cs',h1,h2,h3,h4⟩=>⟨fn',fs',cs',h1.mono hs,h2,RelVs.mono hs fs _ h3,RelVs.mono hs cs _ h4⟩
  | .nilfunc,_,h=>h
  | .iface _ x,_,⟨x',h1,h2⟩=>⟨x',h1,RelV.mono hs x _ h2⟩
  | .niliface,_,h=>h
  | .agg cs,_,⟨cs',h1,h2⟩=>⟨cs',h1,RelVs.mono hs cs _ h2⟩
  | .tuple cs,_,⟨cs',h1,h2⟩=>⟨cs',h1,RelVs.mono hs cs _ h2⟩
theorem RelVs.mono {ρ ρ':Ren} (hs:ρ.Sub ρ') : ∀ (k:List KV) (v:List Value),RelVs ρ k v→RelVs ρ' k v
  | [],_,h=>h
  | a :: r,_,⟨x,s,h1,h2,h3⟩=>⟨x,s,h1,RelV.mono hs a x h2,RelVs.mono hs r s h3⟩
end
def RelT (ρ:Ren) (tm:PT KV) (tmps:Array Value):Prop :=
  ∀ t k,tm.get t=some k → ∃ v,tmps[t]?=some v∧RelV ρ k v
theorem RelT.mono {ρ ρ':Ren} (hs:ρ.Sub ρ') {tm:PT KV} {tmps:Array Value} (h:RelT ρ tm tmps):RelT ρ' tm tmps:=fun t k hk=>by
  obtain ⟨v,h1,h2⟩:=h t k hk
  exact ⟨v,h1,RelV.mono hs _ _ h2⟩
def storable:KV→Bool
  | .agg _=>false
  | .tuple _=>false
  | _=>true
def RelE (ρ:Ren):List (KV × KV)→List MapEntry→Prop
  | [],l=>l=[]
  | (k,v) :: r,l => ∃ e s,l=e :: s∧RelV ρ k e.key∧RelV ρ v e.val∧RelE ρ r s
theorem RelE.mono {ρ ρ':Ren} (hs:ρ.Sub ρ') : ∀ (k:List (KV × KV)) (v:List MapEntry),RelE ρ k v→RelE ρ' k v
  | [],_,h=>h
  | (_,_) :: r,_,⟨e,s,h1,h2,h3,h4⟩=>⟨e,s,h1,RelV.mono hs _ _ h2,RelV.mono hs _ _ h3,RelE.mono hs r s h4⟩
structure RelL (ρ:Ren) (l:KLoop) (r:Loop):Prop where
  state:r.state=(match l.ready with | true=>.ready | false=>match l.done with | true=>.done | false=>.busy)
  pending:r.pending=l.jump
  fn:r.fn=l.fn
  size:r.tmps.size=l.size
  tm:RelT ρ l.tm r.tmps
  params:r.params.toList=l.params
  assign:r.assign=l.assign
  body:r.body=l.body
def shapeK:KV→Option (Option IntKind)
  | .int k _=>some (some k)
  | .str _ _=>some none
  | _=>none
def KeysOk (es:List (KV × KV)):Prop:=(es.map (·.1)).Nodup ∧ ∃ s,∀ e ∈ es,shapeK e.1=some s
def RelO (ρ:Ren) (N:Nat):KObj→Obj→Prop
  | .cells n c ro,o => ∃ arr elem fz,o=.cells arr elem fz∧n≤N∧arr.size=N∧(ro=false→fz=(0,0)) ∧
      ∀ i k,c.get i=some k→storable k=true ∧ ∃ v,arr[i]?=some v∧RelV ρ k v
  | .map es,o => ∃ ents clock,o=.map ents clock∧KeysOk es ∧ ∃ l,l.Perm ents.toList∧RelE ρ es l
  | .loop l,o => ∃ r,o=.loop r∧RelL ρ l r
  | .deferred,o=>o=.deferred (some [])
theorem RelO.mono {ρ ρ':Ren} (hs:ρ.Sub ρ') {N:Nat} {k:KObj} {o:Obj} (h:RelO ρ N k o):RelO ρ' N k o:=by
  cases k with
  | cells n c ro =>
    obtain ⟨arr,elem,fz,h1,h2,h3,h4,h5⟩:=h
    refine ⟨arr,elem,fz,h1,h2,h3,h4,fun i k hk => ?_⟩
    obtain ⟨h6,v,h7,h8⟩:=h5 i k hk
    exact ⟨h6,v,h7,RelV.mono hs _ _ h8⟩
  | map es =>
    obtain ⟨ents,clock,h1,hk,l,h2,h3⟩:=h
    exact ⟨ents,clock,h1,hk,l,h2,RelE.mono hs _ _ h3⟩
  | loop l =>
    obtain ⟨r,h1,h2⟩:=h
    exact ⟨r,h1,{ h2 with tm:=h2.tm.mono hs }⟩
  | deferred=>exact h
def KObj.writable:KObj→Bool
  | .cells _ _ ro => !ro
  | _=>true
def globMax:Nat:=200
structure Rel (w0:World) (K:Nat→Prop) (ρ:Ren) (h:Heap) (nx:Nat) (w:World):Prop where
  img : ∀ b o c N,h.get b=some o→ρ b=some (c,N) → ∃ o',w.heap[c]?=some o'∧RelO ρ N o o'∧(o.writable=true→¬ K c)
  low : ∀ b o,h.get b=some o→b<nx
  fresh : ∀ b,nx≤b→ρ b=none
  inj : ∀ b b' o o' c N N',h.get b=some o→h.get b'=some o'→ρ b=some (c,N)→ρ b'=some (c,N')→b=b'
  kept : ∀ c,K c→c<w0.heap.size∧w.heap[c]?=w0.heap[c]?
  grown:w0.heap.size≤w.heap.size
  os:w.os=w0.os
  output:w.output=w0.output
  glob : ∀ g,g<globMax → ∃ N,ρ g=some (g,N)
structure Stp (ρ:Ren) (h:Heap) (nx:Nat) (ρ':Ren) (h':Heap) (nx':Nat):Prop where
  sub:ρ.Sub ρ'
  up:nx≤nx'
  pend : ∀ b,b<nx→ρ b=none→ρ' b=none∧h'.get b=h.get b
theorem Stp.refl (ρ:Ren) (h:Heap) (nx:Nat):Stp ρ h nx ρ h nx:=⟨.refl ρ,Nat.le_refl _,fun _ _ h=>⟨h,rfl⟩⟩
theorem Stp.trans {ρ ρ' ρ'':Ren} {h h' h'':Heap} {nx nx' nx'':Nat} (a:Stp ρ h nx ρ' h' nx') (b:Stp ρ' h' nx' ρ'' h'' nx''):Stp ρ h nx ρ'' h'' nx'' :=
  ⟨a.sub.trans b.sub,Nat.le_trans a.up b.up,fun c hc hn=>by
    obtain ⟨h1,h2⟩:=a.pend c hc hn
    obtain ⟨h3,h4⟩:=b.pend c (Nat.lt_of_lt_of_le hc a.up) h1
    exact ⟨h3,h4.trans h2⟩⟩
def Ren.add (ρ:Ren) (b:Nat) (x:Nat × Nat):Ren:=fun b'=>if b'=b then some x else ρ b'
theorem Ren.add_self (ρ:Ren) (b:Nat) (x:Nat × Nat):ρ.add b x b=some x:=by simp [Ren.add]
theorem Ren.add_ne (ρ:Ren) {b b':Nat} (x:Nat × Nat) (h:b'≠b):ρ.add b x b'=ρ b':=by simp [Ren.add,h]
theorem Ren.sub_add {ρ:Ren} {b:Nat} {x:Nat × Nat} (h:ρ b=none):ρ.Sub (ρ.add b x):=fun b' y hy=>by
  by_cases hb:b'=b
  · subst hb;rw [h] at hy;cases hy
  · rw [Ren.add_ne _ _ hb];exact hy
end Go.Ev
namespace Go.Ev
section
variable {w0:World} {K:Nat→Prop} {ρ:Ren} {h:Heap} {nx:Nat} {w:World}
theorem Rel.drew (r:Rel w0 K ρ h nx w) (n:Nat):Rel w0 K ρ h nx { w with drawn:=n } :=
  ⟨r.img,r.low,r.fresh,r.inj,r.kept,r.grown,r.os,r.output,r.glob⟩
theorem Rel.notK (r:Rel w0 K ρ h nx w):¬ K w.heap.size:=fun hk=>by
  have:=(r.kept _ hk).1
  have:=r.grown
  omega
theorem Rel.lt (r:Rel w0 K ρ h nx w) {b:Nat} {o:KObj} {c N:Nat} (hb:h.get b=some o) (hr:ρ b=some (c,N)):c<w.heap.size:=by
  obtain ⟨o',h1,_⟩:=r.img b o c N hb hr
  exact (Array.getElem?_eq_some_iff.1 h1).1
theorem Rel.noneAt (r:Rel w0 K ρ h nx w) (b:Nat) (hb:nx≤b):h.get b=none:=by
  cases hg:h.get b with
  | none=>rfl
  | some o=>have:=r.low b o hg;omega
theorem Rel.wait (r:Rel w0 K ρ h nx w) (o:KObj):Rel w0 K ρ (h.put nx (some o)) (nx+1) w where
  img b o1 c N hb hr:=by
    have hne:b≠nx:=fun e=>by have:=r.fresh b (by omega);rw [this] at hr;cases hr
    rw [PT.get_put_ne _ _ _ _ hne] at hb
    exact r.img b o1 c N hb hr
  low b o1 hb:=by
    by_cases hne:b=nx
    · omega
    · rw [PT.get_put_ne _ _ _ _ hne] at hb
      have:=r.low b o1 hb;omega
  fresh b hb:=r.fresh b (by omega)
  inj b b' o1 o1' c N N' h1 h2 h3 h4:=by
    have hne:b≠nx:=fun e=>by have:=r.fresh b (by omega);rw [this] at h3;cases h3
    have hne':b'≠nx:=fun e=>by have:=r.fresh b' (by omega);rw [this] at h4;cases h4
    rw [PT.get_put_ne _ _ _ _ hne] at h1
    rw [PT.get_put_ne _ _ _ _ hne'] at h2
    exact r.inj b b' _ _ c N N' h1 h2 h3 h4
  kept:=r.kept
  grown:=r.grown
  os:=r.os
  output:=r.output
  glob:=r.glob
theorem Rel.land (r:Rel w0 K ρ h nx w) {b N:Nat} {o:KObj} {o':Obj} (hb:h.get b=some o) (hn:ρ b=none) (ho:RelO ρ N o o') :
    Rel w0 K (ρ.add b (w.heap.size,N)) h nx { w with heap:=w.heap.push o' } where
  img b1 o1 c M h1 hr:=by
    by_cases he:b1=b
    · subst he
      rw [Ren.add_self] at hr
      cases hr
      rw [hb] at h1;cases h1
      exact ⟨o',by simp,ho.mono (Ren.sub_add hn),fun _=>r.notK⟩
    · rw [Ren.add_ne _ _ he] at hr
      obtain ⟨o2,h2,h3,h4⟩:=r.img b1 o1 c M h1 hr
      have hlt:=(Array.getElem?_eq_some_iff.1 h2).1
      exact ⟨o2,by simp [Array.getElem?_push,Nat.ne_of_lt hlt,h2],h3.mono (Ren.sub_add hn),h4⟩
  low:=r.low
  fresh b1 h1:=by
    have:=r.low b o hb
    rw [Ren.add_ne _ _ (by omega)]
    exact r.fresh b1 h1
  inj b1 b2 o1 o2 c N1 N2 h1 h2 h3 h4:=by
    by_cases he:b1=b <;> by_cases he':b2=b
    · omega
    · subst he
      rw [Ren.add_self] at h3;cases h3
      rw [Ren.add_ne _ _ he'] at h4
      have:=r.lt h2 h4;omega
    · subst he'
      rw [Ren.add_self] at h4;cases h4
      rw [Ren.add_ne _ _ he] at h3
      have:=r.lt h1 h3;omega
    · rw [Ren.add_ne _ _ he] at h3
      rw [Ren.add_ne _ _ he'] at h4
      exact r.inj b1 b2 _ _ c N1 N2 h1 h2 h3 h4
  kept c hk:=by
    obtain ⟨h1,h2⟩:=r.kept c hk
    refine ⟨h1,?_⟩
    have:=r.grown
    simp [Array.getElem?_push,show c≠w.heap.size by omega,h2]
  grown:=by have:=r.grown;simp;omega
  os:=r.os
  output:=r.output
  glob g hg:=by obtain ⟨M,h1⟩:=r.glob g hg;exact ⟨M,Ren.sub_add hn _ _ h1⟩
theorem Rel.new (r:Rel w0 K ρ h nx w) {N:Nat} {o:KObj} {o':Obj} (ho:RelO ρ N o o') :
    Rel w0 K (ρ.add nx (w.heap.size,N)) (h.put nx (some o)) (nx+1) { w with heap:=w.heap.push o' } :=
  (r.wait o).land (PT.get_put_eq _ _ _) (r.fresh nx (Nat.le_refl _)) ho
theorem Stp.new (r:Rel w0 K ρ h nx w) (x:Nat × Nat) (o:KObj):Stp ρ h nx (ρ.add nx x) (h.put nx (some o)) (nx+1) where
  sub:=Ren.sub_add (r.fresh nx (Nat.le_refl _))
  up:=by omega
  pend b hb hn:=⟨by rw [Ren.add_ne _ _ (by omega)];exact hn,PT.get_put_ne _ _ _ _ (by omega)⟩
theorem Rel.set (r:Rel w0 K ρ h nx w) {b c N:Nat} {o o1:KObj} {o':Obj} (hb:h.get b=some o) (hw:o.writable=true) (hr:ρ b=some (c,N)) (ho:RelO ρ N o1 o') :
    Rel w0 K ρ (h.put b (some o1)) nx { w with heap:=w.heap.setIfInBounds c o' } where
  img b1 o2 c1 N1 h1 h2:=by
    obtain ⟨ob,hob,_,hk⟩:=r.img b o c N hb hr
    have hlt:=(Array.getElem?_eq_some_iff.1 hob).1
    by_cases he:b1=b
    · subst he
      rw [hr] at h2;cases h2
      rw [PT.get_put_eq] at h1;cases h1
      exact ⟨o',by simp [hlt],ho,fun _=>hk hw⟩
    · rw [PT.get_put_ne _ _ _ _ he] at h1
      obtain ⟨o3,h3,h4,h5⟩:=r.img b1 o2 c1 N1 h1 h2
      have hc:c≠c1:=fun e=>he (r.inj b1 b _ _ c1 N1 N h1 hb h2 (e ▸ hr))
      exact ⟨o3,by simp [Array.getElem?_setIfInBounds_ne hc,h3],h4,h5⟩
  low b1 o2 h1:=by
    by_cases he:b1=b
    · subst he;exact r.low _ _ hb
    · rw [PT.get_put_ne _ _ _ _ he] at h1;exact r.low _ _ h1
  fresh:=r.fresh
  inj b1 b2 oa ob c1 N1 N2 h1 h2 h3 h4:=by
    have get : ∀ b' o',(h.put b (some o1)).get b'=some o' → ∃ o'',h.get b'=some o'':=fun b' o' hg=>by
      by_cases he:b'=b
      · subst he;exact ⟨_,hb⟩
      · rw [PT.get_put_ne _ _ _ _ he] at hg;exact ⟨_,hg⟩
    obtain ⟨_,g1⟩:=get b1 _ h1
    obtain ⟨_,g2⟩:=get b2 _ h2
    exact r.inj b1 b2 _ _ c1 N1 N2 g1 g2 h3 h4
  kept c1 hk1:=by
    obtain ⟨h1,h2⟩:=r.kept c1 hk1
    obtain ⟨ob,hob,_,hk⟩:=r.img b o c N hb hr
    have hc:c≠c1:=fun e=>hk hw (e ▸ hk1)
    exact ⟨h1,by simp [Array.getElem?_setIfInBounds_ne hc,h2]⟩
  grown:=by simpa using r.grown
  os:=r.os
  output:=r.output
  glob:=r.glob
theorem Stp.set {b:Nat} {x:Nat × Nat} {o:Option KObj} (hr:ρ b=some x):Stp ρ h nx ρ (h.put b o) nx where
  sub:=.refl ρ
  up:=Nat.le_refl _
  pend b1 _ hn:=⟨hn,PT.get_put_ne _ _ _ _ fun e=>by subst e;rw [hn] at hr;cases hr⟩
theorem Rel.del (r:Rel w0 K ρ h nx w) (b:Nat):Rel w0 K ρ (h.put b none) nx w where
  img b1 o c N h1 h2:=by
    by_cases he:b1=b
    · subst he;rw [PT.get_put_eq] at h1;cases h1
    · rw [PT.get_put_ne _ _ _ _ he] at h1;exact r.img b1 o c N h1 h2
  low b1 o h1:=by
    by_cases he:b1=b
    · subst he;rw [PT.get_put_eq] at h1;cases h1
    · rw [PT.get_put_ne _ _ _ _ he] at h1;exact r.low b1 o h1
  fresh:=r.fresh
  inj b1 b2 o1 o2 c N1 N2 h1 h2 h3 h4:=by
    have ne : ∀ b' o',(h.put b none).get b'=some o'→h.get b'=some o':=fun b' o' hg=>by
      by_cases he:b'=b
      · subst he;rw [PT.get_put_eq] at hg;cases hg
      · rwa [PT.get_put_ne _ _ _ _ he] at hg
    exact r.inj b1 b2 _ _ c N1 N2 (ne _ _ h1) (ne _ _ h2) h3 h4
  kept:=r.kept
  grown:=r.grown
  os:=r.os
  output:=r.output
  glob:=r.glob
theorem Rel.anew (r:Rel w0 K ρ h nx w) {b c N:Nat} {o o1:KObj} {o':Obj} (hb:h.get b=some o) (hw:o.writable=true) (hr:ρ b=some (c,N)) (ho:RelO ρ N o1 o') :
    Rel w0 K (ρ.add nx (c,N)) ((h.put b none).put nx (some o1)) (nx+1) { w with heap:=w.heap.setIfInBounds c o' } := by
  have r1:=r.set hb hw hr ho
  have hlow:=r.low b o hb
  have hf:=r.fresh nx (Nat.le_refl _)
  exact {
    img:=fun b1 o2 c1 N1 h1 h2=>by
      by_cases he:b1=nx
      · subst he
        rw [Ren.add_self] at h2;cases h2
        rw [PT.get_put_eq] at h1;cases h1
        obtain ⟨o3,h3,h4,h5⟩:=r1.img b o1 c N (PT.get_put_eq _ _ _) hr
        obtain ⟨_,_,_,hk⟩:=r.img b o c N hb hr
        exact ⟨o3,h3,h4.mono (Ren.sub_add hf),fun _=>hk hw⟩
      · rw [PT.get_put_ne _ _ _ _ he] at h1
        rw [Ren.add_ne _ _ he] at h2
        by_cases he2:b1=b
        · subst he2;rw [PT.get_put_eq] at h1;cases h1
        · rw [PT.get_put_ne _ _ _ _ he2] at h1
          obtain ⟨o3,h3,h4,h5⟩:=r1.img b1 o2 c1 N1 (by rw [PT.get_put_ne _ _ _ _ he2];exact h1) h2
          exact ⟨o3,h3,h4.mono (Ren.sub_add hf),h5⟩
    low:=fun b1 o2 h1=>by
      by_cases he:b1=nx
      · omega
      · rw [PT.get_put_ne _ _ _ _ he] at h1
        by_cases he2:b1=b
        · omega
        · rw [PT.get_put_ne _ _ _ _ he2] at h1
          have:=r.low b1 o2 h1;omega
    fresh:=fun b1 h1=>by rw [Ren.add_ne _ _ (by omega)];exact r.fresh b1 (by omega)
    inj:=fun b1 b2 oa ob c1 N1 N2 h1 h2 h3 h4=>by
      have ne' : ∀ b' o',b'≠nx→((h.put b none).put nx (some o1)).get b'=some o'→h.get b'=some o'∧b'≠b:=fun b' o' hb' hg=>by
        rw [PT.get_put_ne _ _ _ _ hb'] at hg
        by_cases he:b'=b
        · subst he;rw [PT.get_put_eq] at hg;cases hg
        · rw [PT.get_put_ne _ _ _ _ he] at hg;exact ⟨hg,he⟩
      by_cases he:b1=nx <;> by_cases he':b2=nx
      · omega
      · obtain ⟨g1,g2⟩:=ne' b2 _ he' h2
        subst he
        rw [Ren.add_self] at h3;cases h3
        rw [Ren.add_ne _ _ he'] at h4
        exact absurd (r.inj b2 b _ _ c N2 N g1 hb h4 hr) g2
      · obtain ⟨g1,g2⟩:=ne' b1 _ he h1
        subst he'
        rw [Ren.add_self] at h4;cases h4
        rw [Ren.add_ne _ _ he] at h3
        exact absurd (r.inj b1 b _ _ c N1 N g1 hb h3 hr) g2
      · obtain ⟨g1,_⟩:=ne' b1 _ he h1
        obtain ⟨g2,_⟩:=ne' b2 _ he' h2
        rw [Ren.add_ne _ _ he] at h3
        rw [Ren.add_ne _ _ he'] at h4
        exact r.inj b1 b2 _ _ c1 N1 N2 g1 g2 h3 h4
    kept:=r1.kept
    grown:=r1.grown
    os:=r1.os
    output:=r1.output
    glob:=fun g hg=>by obtain ⟨M,h1⟩:=r.glob g hg;exact ⟨M,Ren.sub_add hf _ _ h1⟩ }
theorem Stp.anew (r:Rel w0 K ρ h nx w) {b:Nat} {x y:Nat × Nat} (hr:ρ b=some y) (o:KObj):Stp ρ h nx (ρ.add nx x) ((h.put b none).put nx (some o)) (nx+1) where
  sub:=Ren.sub_add (r.fresh nx (Nat.le_refl _))
  up:=by omega
  pend b1 hb hn:=⟨by rw [Ren.add_ne _ _ (by omega)];exact hn,by
    rw [PT.get_put_ne _ _ _ _ (by omega),PT.get_put_ne _ _ _ _ fun e=>by subst e;rw [hn] at hr;cases hr]⟩
end
end Go.Ev
namespace Go.Ev
def KV.cells:KV→List KV
  | .agg cs=>cs
  | v=>[v]
def nlen {α:Type} : List α→Nat
  | []=>0
  | _ :: r=>Nat.succ (nlen r)
theorem nlen_eq {α:Type} : ∀ (l:List α),nlen l=l.length
  | []=>rfl
  | _ :: r=>by simp [nlen,nlen_eq r]
def lget {α:Type} : List α→Nat→Option α
  | [],_=>none
  | a :: r,n=>match n with | 0=>some a | m+1=>lget r m
theorem lget_eq {α:Type} : ∀ (l:List α) (n:Nat),lget l n=l[n]?
  | [],n=>by simp [lget]
  | a :: r,0=>rfl
  | a :: r,n+1=>by simp [lget,lget_eq r n]
noncomputable def getCells (c:PT KV) (off:Nat):Nat→Option (List KV)
  | 0=>some []
  | n+1=>match c.get off with
    | none=>none
    | some v=>match getCells c (Nat.succ off) n with
      | none=>none
      | some l=>some (v :: l)
noncomputable def setCells (c:PT KV) (off:Nat):List KV→PT KV
  | []=>c
  | v :: r=>setCells (c.put off (some v)) (Nat.succ off) r
def allStorable:List KV→Bool
  | []=>true
  | v :: r=>match storable v with | true=>allStorable r | false=>false
theorem allStorable_iff : ∀ (l:List KV),allStorable l=true ↔ ∀ v ∈ l,storable v=true
  | []=>by simp [allStorable]
  | v :: r=>by
    cases hv:storable v <;> simp [allStorable,hv,allStorable_iff r]
theorem RelV.one {ρ:Ren} {k:KV} {v:Value} (hs:storable k=true) (h:RelV ρ k v):v.oneCell'=true:=by
  cases k <;> simp [storable] at hs <;> simp only [RelV] at h
  case str=>obtain ⟨_,rfl⟩:=h;rfl
  case ptr | slice | eslice | map | func | iface=>(obtain ⟨_,h⟩:=h);(try (obtain ⟨_,h⟩:=h));(try (obtain ⟨_,h⟩:=h));(try (obtain ⟨_,h⟩:=h));simp_all [Value.oneCell']
  all_goals (subst h;rfl)
theorem RelVs.length {ρ:Ren} : ∀ {ks:List KV} {vs:List Value},RelVs ρ ks vs→vs.length=ks.length
  | [],_,h=>by simp only [RelVs] at h;subst h;rfl
  | _ :: _,_,h=>by
    simp only [RelVs] at h
    obtain ⟨_,_,rfl,_,h3⟩:=h
    simp [h3.length]
theorem RelVs.get {ρ:Ren} : ∀ {ks:List KV} {vs:List Value} (_:RelVs ρ ks vs) (i:Nat) (k:KV),ks[i]?=some k → ∃ v,vs[i]?=some v∧RelV ρ k v
  | [],_,_,i,k,hk=>by simp at hk
  | a :: r,_,h,i,k,hk=>by
    simp only [RelVs] at h
    obtain ⟨x,s,rfl,h2,h3⟩:=h
    cases i with
    | zero=>simp at hk;subst hk;exact ⟨x,rfl,h2⟩
    | succ i=>simpa using h3.get i k (by simpa using hk)
theorem RelVs.get' {ρ:Ren} : ∀ {ks:List KV} {vs:List Value} (_:RelVs ρ ks vs) (i:Nat) (v:Value),vs[i]?=some v → ∃ k,ks[i]?=some k∧RelV ρ k v
  | [],_,h,i,v,hv=>by simp only [RelVs] at h;subst h;simp at hv
  | a :: r,_,h,i,v,hv=>by
    simp only [RelVs] at h
    obtain ⟨x,s,rfl,h2,h3⟩:=h
    cases i with
    | zero=>simp at hv;subst hv;exact ⟨a,rfl,h2⟩
    | succ i=>simpa using h3.get' i v (by simpa using hv)
theorem RelVs.mk {ρ:Ren} : ∀ (ks:List KV) (vs:List Value),vs.length=ks.length→(∀ (i:Nat) (k:KV) (v:Value),ks[i]?=some k→vs[i]?=some v→RelV ρ k v)→RelVs ρ ks vs
  | [],vs,hl,_=>by cases vs <;> simp_all [RelVs]
  | a :: r,vs,hl,h=>by
    cases vs with
    | nil=>simp at hl
    | cons x s =>
      simp only [RelVs]
      exact ⟨x,s,rfl,h 0 a x rfl rfl,RelVs.mk r s (by simpa using hl) fun i k v hk hv=>h (i+1) k v (by simpa using hk) (by simpa using hv)⟩
theorem RelVs.append {ρ:Ren} : ∀ {ks ks':List KV} {vs vs':List Value},RelVs ρ ks vs→RelVs ρ ks' vs'→RelVs ρ (ks ++ ks') (vs ++ vs')
  | [],_,_,_,h,h'=>by simp only [RelVs] at h;subst h;simpa using h'
  | a :: r,_,_,_,h,h'=>by
    simp only [RelVs] at h
    obtain ⟨x,s,rfl,h2,h3⟩:=h
    simp only [List.cons_append,RelVs]
    exact ⟨x,_,rfl,h2,h3.append h'⟩
theorem RelV.cells {ρ:Ren} {k:KV} {v:Value} (h:RelV ρ k v):RelVs ρ k.cells v.cells.toList:=by
  cases k <;> simp only [RelV] at h <;> simp only [KV.cells,RelVs]
  case agg cs=>obtain ⟨cs',rfl,h⟩:=h;exact h
  case int | bool | nilptr | nilslice | nilmap | nilfunc | niliface=>subst h;exact ⟨_,_,rfl,rfl,rfl⟩
  case str=>obtain ⟨h1,rfl⟩:=h;exact ⟨_,_,rfl,⟨h1,rfl⟩,rfl⟩
  case ptr=>obtain ⟨c,N,h1,rfl⟩:=h;exact ⟨_,_,rfl,⟨c,N,h1,rfl⟩,rfl⟩
  case slice=>obtain ⟨c,N,cap',h1,rfl,h3⟩:=h;exact ⟨_,_,rfl,⟨c,N,cap',h1,rfl,h3⟩,rfl⟩
  case eslice=>obtain ⟨c,cap',rfl⟩:=h;exact ⟨_,_,rfl,⟨c,cap',rfl⟩,rfl⟩
  case map=>obtain ⟨c,N,h1,rfl⟩:=h;exact ⟨_,_,rfl,⟨c,N,h1,rfl⟩,rfl⟩
  case func=>obtain ⟨fn',fs',cs',h1,rfl,h3⟩:=h;exact ⟨_,_,rfl,⟨fn',fs',cs',h1,rfl,h3⟩,rfl⟩
  case iface=>obtain ⟨x',rfl,h1⟩:=h;exact ⟨_,_,rfl,⟨x',rfl,h1⟩,rfl⟩
  case tuple=>obtain ⟨cs',rfl,h1⟩:=h;exact ⟨_,_,rfl,⟨cs',rfl,h1⟩,rfl⟩
theorem setCells_get : ∀ (l:List KV) (c:PT KV) (off i:Nat),(setCells c off l).get i=if off≤i∧i<off+l.length then l[i - off]? else c.get i
  | [],c,off,i=>by simp [setCells];omega
  | v :: r,c,off,i=>by
    simp only [setCells,Nat.succ_eq_add_one,setCells_get r,List.length_cons]
    by_cases h1:off+1≤i∧i<off+1+r.length
    · rw [if_pos h1,if_pos (by omega)]
      have:i - off=(i - (off+1))+1:=by omega
      rw [this];simp
    · rw [if_neg h1,PT.get_put]
      by_cases h2:i=off
      · subst h2;simp
      · rw [if_neg h2,if_neg (by omega)]
theorem getCells_get : ∀ (n:Nat) (c:PT KV) (off:Nat) (l:List KV),getCells c off n=some l→l.length=n ∧ ∀ (i:Nat) k,l[i]?=some k→c.get (off+i)=some k
  | 0,c,off,l,h=>by simp [getCells] at h;subst h;simp
  | n+1,c,off,l,h=>by
    simp only [getCells] at h
    cases hc:c.get off with
    | none=>simp [hc] at h
    | some v =>
      simp only [hc] at h
      cases hr:getCells c (Nat.succ off) n with
      | none=>simp [hr] at h
      | some r =>
        simp only [hr,Option.some.injEq] at h
        subst h
        obtain ⟨h1,h2⟩:=getCells_get n c (off+1) r hr
        refine ⟨by simp [h1],fun i k hk => ?_⟩
        cases i with
        | zero=>simp at hk;subst hk;simpa using hc
        | succ i =>
          have:=h2 i k (by simpa using hk)
          rwa [show off+(i+1)=off+1+i by omega]
theorem RelO.read {ρ:Ren} {N n:Nat} {c:PT KV} {ro:Bool} {o:Obj} (h:RelO ρ N (.cells n c ro) o) {off m:Nat} {l:List KV} (hg:getCells c off m=some l) :
    ∃ arr elem fz vs,o=.cells arr elem fz∧arr.size=N∧vs.length=m∧RelVs ρ l vs ∧ ∀ (i:Nat) v,vs[i]?=some v→arr[off+i]?=some v:=by
  obtain ⟨arr,elem,fz,h1,_,h3,_,h5⟩:=h
  obtain ⟨h6,h7⟩:=getCells_get m c off l hg
  have hin : ∀ i,i<m → ∃ v,arr[off+i]?=some v:=fun i hi=>by
    have hk:=h7 i l[i] (by simp)
    obtain ⟨_,v,hv,_⟩:=h5 _ _ hk
    exact ⟨v,hv⟩
  have hsize : ∀ i,i<m→off+i<arr.size:=fun i hi=>by
    obtain ⟨v,hv⟩:=hin i hi
    exact (Array.getElem?_eq_some_iff.1 hv).1
  have hlen:((arr.toList.drop off).take m).length=m:=by
    cases m with
    | zero=>simp
    | succ m =>
      have:=hsize m (by omega)
      simp;omega
  have hat : ∀ (i:Nat) v,((arr.toList.drop off).take m)[i]?=some v→arr[off+i]?=some v:=fun i v hv=>by
    rw [List.getElem?_take] at hv
    split at hv
    · rw [List.getElem?_drop] at hv;simpa using hv
    · cases hv
  refine ⟨arr,elem,fz,(arr.toList.drop off).take m,h1,h3,hlen,RelVs.mk _ _ (by rw [hlen,h6]) fun i k v hk hv => ?_,hat⟩
  obtain ⟨_,v',hv',hr⟩:=h5 _ _ (h7 i k hk)
  rw [hat i v hv] at hv'
  cases hv'
  exact hr
def putAt (arr:Array Value) (off:Nat) (vs:List Value):Array Value:=(arr.toList.take off ++ vs ++ arr.toList.drop (off+vs.length)).toArray
theorem putAt_size {arr:Array Value} {off:Nat} {vs:List Value} (h:off+vs.length≤arr.size):(putAt arr off vs).size=arr.size:=by
  simp [putAt];omega
theorem putAt_get {arr:Array Value} {off:Nat} {vs:List Value} (h:off+vs.length≤arr.size) (i:Nat) :
    (putAt arr off vs)[i]?=if off≤i∧i<off+vs.length then vs[i - off]? else arr[i]?:=by
  have hm:min off arr.size=off:=by omega
  simp only [putAt,List.getElem?_toArray,List.getElem?_append,List.length_append,List.length_take,Array.length_toList,hm]
  by_cases h1:i<off
  · have:¬ (off≤i∧i<off+vs.length):=by omega
    have h2:i<off+vs.length:=by omega
    rw [if_neg this,if_pos h2,if_pos h1,List.getElem?_take,if_pos h1];simp
  · by_cases h2:i<off+vs.length
    · have:off≤i∧i<off+vs.length:=by omega
      rw [if_pos this,if_pos h2,if_neg h1]
    · have h3:¬ (off≤i∧i<off+vs.length):=by omega
      rw [if_neg h2,if_neg h3,List.getElem?_drop,show off+vs.length+(i - (off+vs.length))=i by omega]
      simp
theorem RelO.write {ρ:Ren} {N n:Nat} {c:PT KV} {arr:Array Value} {elem:TypeId} {fz:Nat × Nat} (h:RelO ρ N (.cells n c false) (.cells arr elem fz)) {off:Nat} {l:List KV} {vs:List Value}
    (hr:RelVs ρ l vs) (hs : ∀ v ∈ l,storable v=true) (hfit:off+l.length≤n) :
    fz=(0,0)∧off+vs.length≤arr.size∧RelO ρ N (.cells n (setCells c off l) false) (.cells (putAt arr off vs) elem (0,0)):=by
  obtain ⟨arr1,elem1,fz1,h1,h2,h3,h4,h5⟩:=h
  cases h1
  have hl:=hr.length
  have hfit':off+vs.length≤arr.size:=by omega
  refine ⟨h4 rfl,hfit',_,_,_,rfl,h2,by rw [putAt_size hfit',h3],fun _=>rfl,fun i k hk => ?_⟩
  rw [setCells_get] at hk
  rw [putAt_get hfit']
  by_cases hi:off≤i∧i<off+l.length
  · rw [if_pos hi] at hk
    rw [if_pos (by omega)]
    obtain ⟨v,hv,hrv⟩:=hr.get _ _ hk
    exact ⟨hs k (List.mem_of_getElem? hk),v,hv,hrv⟩
  · rw [if_neg hi] at hk
    rw [if_neg (by omega)]
    exact h5 i k hk
end Go.Ev
namespace Go.Ev
def natOf:List UInt8→Nat
  | []=>0
  | b :: r=>Nat.add b.toNat (Nat.mul 256 (natOf r))
theorem bytesL_natOf : ∀ (l:List UInt8),bytesL l.length (natOf l)=l
  | []=>rfl
  | b :: r=>by
    have h:natOf (b :: r)=b.toNat+256*natOf r:=rfl
    have hb:b.toNat<256:=b.toNat_lt
    simp only [List.length_cons,bytesL,h]
    have h1:(b.toNat+256*natOf r) % 256=b.toNat:=by omega
    have h2:(b.toNat+256*natOf r) / 256=natOf r:=by omega
    rw [h1,h2,bytesL_natOf r]
    simp
theorem natOf_lt : ∀ (l:List UInt8),natOf l<256 ^ l.length
  | []=>by simp [natOf]
  | b :: r=>by
    have h:natOf (b :: r)=b.toNat+256*natOf r:=rfl
    have hb:b.toNat<256:=b.toNat_lt
    have:=natOf_lt r
    simp only [List.length_cons,Nat.pow_succ,h]
    omega
theorem strOf_natOf (s:ByteArray):strOf s.size (natOf s.data.toList)=s:=by
  have:s.size=s.data.toList.length:=by cases s;simp [ByteArray.size]
  unfold strOf
  rw [this,bytesL_natOf]
def ofScalar:Value→Option KV
  | .bool b=>some (.bool b)
  | .int k n=>some (.int k n)
  | .string s=>some (.str s.size (natOf s.data.toList))
  | .pointer none=>some .nilptr
  | .slice none 0 0=>some .nilslice
  | .map none=>some .nilmap
  | .func (.func f) a b=>match a.toList,b.toList with
    | [],[]=>some (.func (.func f) [] [])
    | _,_=>none
  | .nilFunc=>some .nilfunc
  | .nilIface=>some .niliface
  | _=>none
def ofScalars:List Value→Option (List KV)
  | []=>some []
  | v :: r=>match ofScalar v with
    | none=>none
    | some k=>match ofScalars r with
      | none=>none
      | some l=>some (k :: l)
def ofVal (v:Value):Option KV :=
  match v with
  | .agg cs=>match ofScalars cs.toList with | some l=>some (.agg l) | none=>none
  | .tuple _=>none
  | v=>ofScalar v
theorem ofScalar_rel {ρ:Ren} {v:Value} {k:KV} (h:ofScalar v=some k):RelV ρ k v:=by
  unfold ofScalar at h
  split at h <;> (try (cases h)) <;> try (simp only [RelV])
  case h_3 s=>exact ⟨by have:=natOf_lt s.data.toList;rwa [show s.data.toList.length=s.size by cases s;simp [ByteArray.size]] at this,congrArg Value.string (strOf_natOf s).symm⟩
  case h_7 f a b =>
    split at h
    · cases h
      rename_i h1 h2
      exact ⟨_,_,_,rfl,rfl,by simp [RelVs,h1],by simp [RelVs,h2]⟩
    · cases h
theorem ofScalars_rel {ρ:Ren} : ∀ {vs:List Value} {l:List KV},ofScalars vs=some l→RelVs ρ l vs
  | [],l,h=>by simp [ofScalars] at h;subst h;simp [RelVs]
  | v :: r,l,h=>by
    simp only [ofScalars] at h
    cases hv:ofScalar v with
    | none=>simp [hv] at h
    | some k =>
      cases hr:ofScalars r with
      | none=>simp [hv,hr] at h
      | some l' =>
        simp only [hv,hr,Option.some.injEq] at h
        subst h
        simp only [RelVs]
        exact ⟨v,r,rfl,ofScalar_rel hv,ofScalars_rel hr⟩
theorem ofVal_rel {ρ:Ren} {v:Value} {k:KV} (h:ofVal v=some k):RelV ρ k v:=by
  unfold ofVal at h
  split at h
  · rename_i cs
    split at h
    · rename_i l hl
      cases h
      simp only [RelV]
      exact ⟨cs,rfl,ofScalars_rel hl⟩
    · cases h
  · cases h
  · exact ofScalar_rel h
section
variable (P:Program)
def zeroOf (t:TypeId):Option KV :=
  match P.info? t with
  | some i=>match i.zero with
    | some z=>ofVal z
    | none=>none
  | none=>none
def sizeOf' (t:TypeId):Option Nat :=
  match P.info? t with
  | some i=>some i.size
  | none=>none
def isAgg' (t:TypeId):Option Bool :=
  match P.underlying t with
  | some (.struct _)=>some true
  | some (.array _ _)=>some true
  | some _=>some false
  | none=>none
variable {P}
theorem run_underlying' {t:TypeId} {d:TypeDesc} (h:P.underlying t=some d) (w:World):(underlying t).run P w=.ok d w:=by
  simp [underlying,h]
theorem run_typeInfo' {t:TypeId} {i:TypeInfo} (h:P.info? t=some i) (w:World):(typeInfo t).run P w=.ok i w:=by
  simp [typeInfo,h]
theorem run_sizeOf' {t:TypeId} {n:Nat} (h:sizeOf' P t=some n) (w:World):(sizeOf t).run P w=.ok n w:=by
  unfold sizeOf' at h
  split at h
  · rename_i i hi;cases h;simp [sizeOf,run_typeInfo' hi]
  · cases h
theorem run_isAgg' {t:TypeId} {b:Bool} (h:isAgg' P t=some b) (w:World):(isAgg t).run P w=.ok b w:=by
  unfold isAgg' at h
  split at h <;> (try cases h) <;> rename_i hu
  · simp [isAgg,run_underlying' hu]
  · simp [isAgg,run_underlying' hu]
  · rename_i h1 h2
    simp only [isAgg,Sem.run_bind,run_underlying' hu,Result.andThen_ok]
    rename_i d
    cases d <;> first | rfl | simp_all
theorem run_zeroOf {ρ:Ren} {t:TypeId} {k:KV} (h:zeroOf P t=some k) (w:World) : ∃ z,(zeroValue t).run P w=.ok z w∧RelV ρ k z:=by
  unfold zeroOf at h
  split at h
  · rename_i i hi
    split at h
    · rename_i z hz
      exact ⟨z,by simp [zeroValue,run_typeInfo' hi,hz],ofVal_rel h⟩
    · cases h
  · cases h
noncomputable def evalK (tm:PT KV):Operand→Option KV
  | .tmp t=>tm.get t
  | .const v=>ofVal v
  | .global g=>match Nat.blt g globMax with | true=>some (.ptr g 0) | false=>none
  | .func f=>some (.func (.func f) [] [])
noncomputable def evalsK (tm:PT KV):List Operand→Option (List KV)
  | []=>some []
  | x :: r=>match evalK tm x with
    | none=>none
    | some v=>match evalsK tm r with
      | none=>none
      | some l=>some (v :: l)
def RelX (ρ:Ren) (tm:PT KV) (ev:Operand→Value) (l:List Operand):Prop:=∀ x ∈ l,∀ k,evalK tm x=some k→RelV ρ k (ev x)
theorem evalsK_rel {ρ:Ren} {tm:PT KV} {ev:Operand→Value} : ∀ {l:List Operand} {ks:List KV},RelX ρ tm ev l→evalsK tm l=some ks→RelVs ρ ks (l.map ev)
  | [],ks,_,h=>by simp [evalsK] at h;subst h;simp [RelVs]
  | x :: r,ks,hx,h=>by
    simp only [evalsK] at h
    cases hv:evalK tm x with
    | none=>simp [hv] at h
    | some k =>
      cases hr:evalsK tm r with
      | none=>simp [hv,hr] at h
      | some l' =>
        simp only [hv,hr,Option.some.injEq] at h
        subst h
        simp only [RelVs,List.map_cons]
        exact ⟨_,_,rfl,hx x (by simp) k hv,evalsK_rel (fun y hy=>hx y (by simp [hy])) hr⟩
variable (P)
noncomputable def loadK (h:Heap) (t:TypeId) (a:KV):Option KV :=
  match a with
  | .ptr b off=>match h.get b with
    | some (.cells _ c _)=>match isAgg' P t with
      | some true=>match sizeOf' P t with
        | some n=>match getCells c off n with
          | some l=>some (.agg l)
          | none=>none
        | none=>none
      | some false=>c.get off
      | none=>none
    | _=>none
  | _=>none
noncomputable def storeCellsK (h:Heap) (b off:Nat) (cs:List KV):Option Heap :=
  match h.get b with
  | some (.cells n c false)=>match allStorable cs with
    | true=>match Nat.ble (Nat.add off (nlen cs)) n with
      | true=>some (h.put b (some (.cells n (setCells c off cs) false)))
      | false=>none
    | false=>none
  | _=>none
noncomputable def storeK (h:Heap) (t:TypeId) (a v:KV):Option Heap :=
  match a with
  | .ptr b off=>match sizeOf' P t with
    | some n=>match Nat.beq (nlen v.cells) n with
      | true=>storeCellsK h b off v.cells
      | false=>none
    | none=>none
  | _=>none
variable {P}
variable {w0:World} {K:Nat→Prop} {ρ:Ren} {h:Heap} {nx:Nat} {w:World}
theorem addr_add (c off i:Nat):(⟨c,off,none⟩:Addr).add i=⟨c,off+i,none⟩:=by
  unfold Addr.add;split <;> simp_all
theorem cells_readD (r:Rel w0 K ρ h nx w) {b n:Nat} {c:PT KV} {ro:Bool} (hb:h.get b=some (.cells n c ro)) {cb N off m:Nat} (hr:ρ b=some (cb,N)) {l:List KV} (hl:getCells c off m=some l) :
    ∃ vs:List Value,(∀ d,(loadCells ⟨cb,off,none⟩ m).run P { w with drawn:=d } = .ok vs.toArray { w with drawn:=d })∧RelVs ρ l vs:=by
  obtain ⟨o',h1,h2,_⟩:=r.img b _ cb N hb hr
  obtain ⟨arr,elem,fz,vs,rfl,h3,h4,h5,h6⟩:=h2.read hl
  refine ⟨vs,fun d => ?_,h5⟩
  subst h4
  refine run_loadCells_list _ _ vs fun j v hv => ?_
  rw [addr_add]
  simp [World.cell?,h1,h6 j v hv]
theorem cells_read (r:Rel w0 K ρ h nx w) {b n:Nat} {c:PT KV} {ro:Bool} (hb:h.get b=some (.cells n c ro)) {cb N off m:Nat} (hr:ρ b=some (cb,N)) {l:List KV} (hl:getCells c off m=some l) :
    ∃ vs:List Value,(loadCells ⟨cb,off,none⟩ m).run P w=.ok vs.toArray w∧RelVs ρ l vs:=by
  obtain ⟨vs,h1,h2⟩:=cells_readD (P:=P) r hb hr hl
  exact ⟨vs,h1 w.drawn,h2⟩
theorem cell_read (r:Rel w0 K ρ h nx w) {b n:Nat} {c:PT KV} {ro:Bool} (hb:h.get b=some (.cells n c ro)) {cb N off:Nat} (hr:ρ b=some (cb,N)) {k:KV} (hk:c.get off=some k) :
    ∃ v,(load ⟨cb,off,none⟩).run P w=.ok v w∧RelV ρ k v:=by
  obtain ⟨o',h1,h2,_⟩:=r.img b _ cb N hb hr
  obtain ⟨arr,elem,fz,rfl,_,h3,_,h5⟩:=h2
  obtain ⟨_,v,hv,hrel⟩:=h5 off k hk
  exact ⟨v,by simp [World.cell?,h1,hv],hrel⟩
theorem load_ok (r:Rel w0 K ρ h nx w) {t:TypeId} {a k:KV} {v:Value} (hk:loadK P h t a=some k) (ha:RelV ρ a v) :
    ∃ v',(Instr.loadAt t v).run P w=.ok v' w∧RelV ρ k v':=by
  unfold loadK at hk
  split at hk
  · rename_i b off
    simp only [RelV] at ha
    obtain ⟨c,N,hr,rfl⟩:=ha
    split at hk
    · rename_i n cs ro hb
      split at hk
      · rename_i hag
        split at hk
        · rename_i m hm
          split at hk
          · rename_i l hl
            cases hk
            obtain ⟨vs,h1,h2⟩:=cells_read (P:=P) r hb hr hl
            exact ⟨.agg vs.toArray,by simp [Instr.loadAt,Instr.sureAddr,loadVar,run_isAgg' hag,run_sizeOf' hm,h1],by simp only [RelV];exact ⟨_,rfl,by simpa using h2⟩⟩
          · cases hk
        · cases hk
      · rename_i hag
        obtain ⟨v',h1,h2⟩:=cell_read (P:=P) r hb hr hk
        exact ⟨v',by simp only [Instr.loadAt,Instr.sureAddr,loadVar,Sem.run_bind,Sem.run_pure,Result.andThen_ok,run_isAgg' hag,Bool.false_eq_true,if_false,h1],h2⟩
      · cases hk
    · cases hk
  · cases hk
theorem storeCells_ok (r:Rel w0 K ρ h nx w) {b off:Nat} {cs:List KV} {vs:List Value} {h':Heap} (hk:storeCellsK h b off cs=some h') {c N:Nat} (hr:ρ b=some (c,N)) (hv:RelVs ρ cs vs) :
    ∃ w',(storeCells ⟨c,off,none⟩ vs).run P w=.ok () w'∧Rel w0 K ρ h' nx w'∧Stp ρ h nx ρ h' nx:=by
  unfold storeCellsK at hk
  split at hk
  · rename_i n ct hb
    split at hk
    · rename_i hs
      split at hk
      · rename_i hfit
        cases hk
        have hfit':off+cs.length≤n:=by have:=Nat.le_of_ble_eq_true hfit;rw [nlen_eq] at this;exact this
        have hs':=(allStorable_iff cs).1 hs
        obtain ⟨o',h1,h2,_⟩:=r.img b _ c N hb hr
        obtain ⟨arr,elem,fz,rfl,_⟩:=id h2
        obtain ⟨rfl,h3,h4⟩:=h2.write hv hs' hfit'
        have hone : ∀ v ∈ vs,v.oneCell'=true:=fun v hv'=>by
          obtain ⟨i,hi⟩:=List.getElem?_of_mem hv'
          obtain ⟨k,hk,hrel⟩:=hv.get' i v hi
          exact RelV.one (hs' k (List.mem_of_getElem? hk)) hrel
        have hrun:=run_storeCells_at P c off elem vs 0 arr w h1 (by simpa using h3) hone
        refine ⟨_,hrun,?_,Stp.set hr⟩
        have hw:w.setRow c (arr.toList.take (off+0) ++ vs ++ arr.toList.drop (off+0+vs.length)).toArray = { w with heap:=w.heap.setIfInBounds c (.cells (putAt arr off vs) elem (0,0)) } := by
          have hlt:=(Array.getElem?_eq_some_iff.1 h1).1
          have hat:=(Array.getElem?_eq_some_iff.1 h1).2
          unfold World.setRow
          congr 1
          apply Array.ext_getElem?
          intro i
          by_cases hc:c=i
          · subst hc
            rw [Array.getElem?_modify,if_pos rfl,h1]
            simp [hlt,putAt]
          · rw [Array.getElem?_modify,if_neg hc,Array.getElem?_setIfInBounds_ne hc]
        rw [hw]
        exact r.set hb rfl hr h4
      · cases hk
    · cases hk
  · cases hk
theorem store_ok (r:Rel w0 K ρ h nx w) {t:TypeId} {a x:KV} {va vx:Value} {h':Heap} (hk:storeK P h t a x=some h') (ha:RelV ρ a va) (hx:RelV ρ x vx) :
    ∃ w',(Instr.storeAt t va vx).run P w=.ok () w'∧Rel w0 K ρ h' nx w'∧Stp ρ h nx ρ h' nx:=by
  unfold storeK at hk
  split at hk
  · rename_i b off
    simp only [RelV] at ha
    obtain ⟨c,N,hr,rfl⟩:=ha
    split at hk
    · rename_i n hn
      split at hk
      · rename_i hlen
        have hlen':=Nat.eq_of_beq_eq_true hlen
        rw [nlen_eq] at hlen'
        have hc:=hx.cells
        have hsz:vx.cells.size=n:=by have:=hc.length;simp at this;omega
        obtain ⟨w',h1,h2⟩:=storeCells_ok (P:=P) r hk hr hc
        exact ⟨w',by simp [Instr.storeAt,Instr.sureAddr,storeVar,run_sizeOf' hn,hsz,h1],h2⟩
      · cases hk
    · cases hk
  · cases hk
end
end Go.Ev
namespace Go.Ev
theorem bytesL_length : ∀ (l n:Nat),(bytesL l n).length=l
  | 0,_=>rfl
  | l+1,n=>by simp [bytesL,bytesL_length l]
theorem strOf_size (l n:Nat):(strOf l n).size=l:=by simp [strOf,ByteArray.size,bytesL_length]
theorem strOf_toList (l n:Nat):(strOf l n).toList=bytesL l n:=by rw [ByteArray.toList_eq];simp [strOf]
theorem bytesL_inj : ∀ (l n m:Nat),n<256 ^ l→m<256 ^ l→bytesL l n=bytesL l m→n=m
  | 0,n,m,h1,h2,_=>by simp at h1 h2;omega
  | l+1,n,m,h1,h2,h=>by
    simp only [bytesL,List.cons.injEq] at h
    obtain ⟨h3,h4⟩:=h
    have h5:n % 256=m % 256:=by
      have:=congrArg UInt8.toNat h3
      simpa using this
    have h6:=bytesL_inj l (n / 256) (m / 256) (by rw [Nat.pow_succ] at h1;omega) (by rw [Nat.pow_succ] at h2;omega) h4
    omega
def strEq (l n m o:Nat):Bool:=match Nat.beq l m with | true=>Nat.beq n o | false=>false
theorem strEq_iff {l n m o:Nat} (h1:n<256 ^ l) (h2:o<256 ^ m):strEq l n m o=true ↔ bytesL l n=bytesL m o:=by
  unfold strEq
  by_cases h:l=m
  · subst h
    have:Nat.beq l l=true:=by simp
    rw [this]
    constructor
    · intro h;have:=Nat.eq_of_beq_eq_true h;subst this;rfl
    · intro h;have:=bytesL_inj l n o h1 h2 h;subst this;simp
  · have:Nat.beq l m=false:=by cases hb:Nat.beq l m;rfl;exact absurd (Nat.eq_of_beq_eq_true hb) h
    rw [this]
    constructor
    · intro h;cases h
    · intro hb;exact absurd (by have:=congrArg List.length hb;simpa [bytesL_length] using this) h
theorem strEq_list {l n m o:Nat} (h1:n<256 ^ l) (h2:o<256 ^ m):((strOf l n).toList == (strOf m o).toList)=strEq l n m o:=by
  rw [strOf_toList,strOf_toList,Bool.eq_iff_iff,strEq_iff h1 h2]
  simp
theorem strOf_eq_iff {l n m o:Nat} : strOf l n=strOf m o ↔ bytesL l n=bytesL m o:=by
  constructor
  · intro h;have:=congrArg ByteArray.toList h;simpa [strOf_toList] using this
  · intro h;simp [strOf,h]
theorem ba_beq (a b:ByteArray):(a == b)=(a.data == b.data):=by cases a;cases b;rfl
theorem ba_beq_iff (a b:ByteArray):(a == b)=true ↔ a=b:=by
  rw [ba_beq,beq_iff_eq]
  exact ⟨ByteArray.ext,fun h=>by rw [h]⟩
theorem strEq_beq {l n m o:Nat} (h1:n<256 ^ l) (h2:o<256 ^ m):(strOf l n == strOf m o)=strEq l n m o:=by
  rw [Bool.eq_iff_iff,strEq_iff h1 h2,← strOf_eq_iff,ba_beq_iff]
theorem bytesL_add : ∀ (l m n o:Nat),n<256 ^ l→bytesL (l+m) (n+o*256 ^ l)=bytesL l n ++ bytesL m o
  | 0,m,n,o,h=>by simp at h;subst h;simp [bytesL]
  | l+1,m,n,o,h=>by
    have e:l+1+m=(l+m)+1:=by omega
    rw [e]
    simp only [bytesL,List.cons_append]
    have hp:o*256 ^ (l+1)=256*(o*256 ^ l):=by rw [Nat.pow_succ];ac_rfl
    rw [hp]
    have h1:(n+256*(o*256 ^ l)) % 256=n % 256:=by omega
    have h2:(n+256*(o*256 ^ l)) / 256=n / 256+o*256 ^ l:=by omega
    rw [h1,h2,bytesL_add l m (n / 256) o (by rw [Nat.pow_succ] at h;omega)]
theorem pow_256 (l:Nat):2 ^ (8*l)=256 ^ l:=by rw [Nat.pow_mul]
theorem add_lt {l m n o:Nat} (h1:n<256 ^ l) (h2:o<256 ^ m):n+o*256 ^ l<256 ^ (l+m):=by
  rw [Nat.pow_add]
  have:(o+1)*256 ^ l≤256 ^ m*256 ^ l:=Nat.mul_le_mul_right _ h2
  rw [Nat.add_mul,Nat.one_mul] at this
  rw [Nat.mul_comm (256 ^ l)]
  omega
theorem strOf_append {l m n o:Nat} (h:n<256 ^ l):strOf l n ++ strOf m o=strOf (l+m) (n+o*256 ^ l):=by
  have:(strOf l n ++ strOf m o).data=(strOf (l+m) (n+o*256 ^ l)).data:=by
    rw [ByteArray.data_append]
    simp only [strOf,bytesL_add l m n o h]
    simp
  exact ByteArray.ext this
theorem bytesL_drop : ∀ (k l n:Nat),(bytesL l n).drop k=bytesL (l - k) (n / 256 ^ k)
  | 0,l,n=>by simp
  | k+1,0,n=>by simp [bytesL]
  | k+1,l+1,n=>by
    simp only [bytesL,List.drop_succ_cons,bytesL_drop k l (n / 256)]
    rw [Nat.div_div_eq_div_mul,Nat.pow_succ,Nat.mul_comm 256]
    congr 1
    omega
theorem bytesL_mod : ∀ (l n k:Nat),l≤k→bytesL l (n % 256 ^ k)=bytesL l n
  | 0,_,_,_=>rfl
  | l+1,n,0,h=>by omega
  | l+1,n,k+1,h=>by
    simp only [bytesL]
    have h1:n % 256 ^ (k+1) % 256=n % 256:=Nat.mod_mod_of_dvd _ (by rw [Nat.pow_succ];exact Nat.dvd_mul_left _ _)
    have h2:n % 256 ^ (k+1) / 256=n / 256 % 256 ^ k:=by
      rw [Nat.pow_succ,Nat.mul_comm,Nat.mod_mul_right_div_self]
    rw [h1,h2,bytesL_mod l (n / 256) k (by omega)]
theorem bytesL_take : ∀ (k l n:Nat),k≤l→(bytesL l n).take k=bytesL k n
  | 0,_,_,_=>by simp [bytesL]
  | k+1,0,_,h=>by omega
  | k+1,l+1,n,h=>by simp only [bytesL,List.take_succ_cons,bytesL_take k l _ (by omega)]
def subStr (n lo hi:Nat):Nat:=Nat.mod (Nat.shiftRight n (Nat.mul 8 lo)) (Nat.pow 2 (Nat.mul 8 (Nat.sub hi lo)))
theorem subStr_eq (n lo hi:Nat):subStr n lo hi=n / 256 ^ lo % 256 ^ (hi - lo):=by
  show (n >>> (8*lo)) % 2 ^ (8*(hi - lo))=_
  rw [Nat.shiftRight_eq_div_pow,pow_256,pow_256]
theorem strOf_extract {l n lo hi:Nat} (h1:lo≤hi) (h2:hi≤l):(strOf l n).extract lo hi=strOf (hi - lo) (subStr n lo hi):=by
  apply ByteArray.ext
  rw [ByteArray.data_extract]
  apply Array.ext'
  simp only [strOf,Array.toList_extract,List.extract_eq_take_drop,bytesL_drop,subStr_eq]
  rw [bytesL_take _ _ _ (by omega),bytesL_mod _ _ _ (Nat.le_refl _)]
theorem subStr_lt (n lo hi:Nat):subStr n lo hi<256 ^ (hi - lo):=by
  rw [subStr_eq];exact Nat.mod_lt _ (Nat.pow_pos (by omega))
theorem bytesL_get : ∀ (l n i:Nat),i<l→(bytesL l n)[i]?=some (UInt8.ofNat (n / 256 ^ i % 256))
  | 0,_,_,h=>by omega
  | l+1,n,0,_=>by simp [bytesL]
  | l+1,n,i+1,h=>by
    simp only [bytesL,List.getElem?_cons_succ,bytesL_get l (n / 256) i (by omega)]
    rw [Nat.div_div_eq_div_mul,Nat.pow_succ,Nat.mul_comm 256]
def byteAt (n i:Nat):Nat:=Nat.mod (Nat.shiftRight n (Nat.mul 8 i)) 256
theorem byteAt_eq (n i:Nat):byteAt n i=n / 256 ^ i % 256:=by
  show (n >>> (8*i)) % 256=_
  rw [Nat.shiftRight_eq_div_pow,pow_256]
theorem strOf_get {l n i:Nat} (h:i<l):(strOf l n)[i]?=some (UInt8.ofNat (byteAt n i)):=by
  have hs:i<(strOf l n).size:=by rw [strOf_size];exact h
  rw [ByteArray.getElem?_lt' _ _ hs]
  have hg:=bytesL_get l n i h
  rw [← byteAt_eq] at hg
  rw [← hg]
  have hlen:i<(bytesL l n).length:=by rw [bytesL_length];exact h
  rw [List.getElem?_eq_getElem hlen]
  rfl
def bytesK:Nat→Nat→List Nat
  | 0,_=>[]
  | l+1,n=>Nat.mod n 256 :: bytesK l (Nat.div n 256)
def lessK:List Nat→List Nat→Bool
  | _,[]=>false
  | [],_ :: _=>true
  | a :: x,b :: y=>match Nat.blt a b with
    | true=>true
    | false=>match Nat.beq a b with | true=>lessK x y | false=>false
theorem lessK_eq : ∀ (l n m o:Nat),lessK (bytesK l n) (bytesK m o)=Op.bytesLess (bytesL l n) (bytesL m o)
  | l,n,0,o=>by cases l <;> simp [bytesK,bytesL,lessK,Op.bytesLess]
  | 0,n,m+1,o=>by simp [bytesK,bytesL,lessK,Op.bytesLess]
  | l+1,n,m+1,o=>by
    simp only [bytesK,bytesL,lessK,Op.bytesLess,lessK_eq l _ m _]
    have h1:(UInt8.ofNat (n % 256)<UInt8.ofNat (o % 256)) ↔ n % 256<o % 256:=by
      rw [UInt8.lt_iff_toNat_lt];simp
    have h2:(UInt8.ofNat (n % 256) == UInt8.ofNat (o % 256))=Nat.beq (n % 256) (o % 256):=by
      rw [Bool.eq_iff_iff]
      rw [beq_iff_eq]
      constructor
      · intro h;have:=congrArg UInt8.toNat h;simp at this;rw [this];simp
      · intro h;rw [Nat.eq_of_beq_eq_true h]
    have h3:Nat.blt (Nat.mod n 256) (Nat.mod o 256)=decide (n % 256<o % 256):=by
      rw [Bool.eq_iff_iff];simp [Nat.blt_eq];rfl
    rw [h3,h2]
    by_cases h:n % 256<o % 256
    · simp [h,h1]
    · simp only [h,decide_false,h1,Bool.false_or]
      show (match Nat.beq (n % 256) (o % 256) with | true=>Op.bytesLess (bytesL l (n / 256)) (bytesL m (o / 256)) | false=>false)=_
      cases Nat.beq (n % 256) (o % 256) <;> simp
end Go.Ev
namespace Go.Ev
def wrapK (k:IntKind) (n:Int):Int :=
  match n with
  | .ofNat m=>match Nat.blt m 128 with
    | true=>.ofNat m
    | false=>match k with
      | .i64=>match Nat.blt m 9223372036854775808 with | true=>.ofNat m | false=>k.wrap n
      | .u8=>.ofNat (Nat.mod m 256)
      | _=>k.wrap n
  | .negSucc m=>match k with
    | .i64=>match Nat.blt m 9223372036854775808 with | true=>n | false=>k.wrap n
    | _=>k.wrap n
theorem wrap_small (k:IntKind) (m:Nat) (h:m<128):k.wrap (.ofNat m)=.ofNat m:=by
  unfold IntKind.wrap
  cases k <;> simp [IntKind.bits,IntKind.signed] <;> omega
theorem wrapK_eq (k:IntKind) (n:Int):wrapK k n=k.wrap n:=by
  unfold wrapK
  split
  · rename_i m
    split
    · rename_i h;rw [wrap_small k m (by simpa [Nat.blt_eq] using h)]
    · split
      · split
        · rename_i h
          have h':m<9223372036854775808:=by simpa [Nat.blt_eq] using h
          simp [IntKind.wrap,IntKind.bits,IntKind.signed];omega
        · rfl
      · show Int.ofNat (m % 256)=_
        simp [IntKind.wrap,IntKind.bits,IntKind.signed]
      · rfl
  · rename_i m
    split
    · split
      · rename_i h
        have h':m<9223372036854775808:=by simpa [Nat.blt_eq] using h
        simp only [IntKind.wrap,IntKind.bits,IntKind.signed,Int.negSucc_eq]
        simp
        omega
      · rfl
    · rfl
def addI (a b:Int):Int :=
  match a,b with
  | .ofNat m,.ofNat n=>.ofNat (Nat.add m n)
  | _,_=>a+b
theorem addI_eq (a b:Int):addI a b=a+b:=by
  unfold addI;split <;> rfl
def subI (a b:Int):Int :=
  match a,b with
  | .ofNat m,.ofNat n=>match Nat.ble n m with | true=>.ofNat (Nat.sub m n) | false=>a - b
  | _,_=>a - b
theorem subI_eq (a b:Int):subI a b=a - b:=by
  unfold subI
  split
  · rename_i m n
    split
    · rename_i h
      have:=Nat.le_of_ble_eq_true h
      show ((m - n:Nat):Int)=(m:Int) - (n:Int)
      omega
    · rfl
  · rfl
def eqI (a b:Int):Bool :=
  match a,b with
  | .ofNat m,.ofNat n=>Nat.beq m n
  | .negSucc m,.negSucc n=>Nat.beq m n
  | _,_=>false
theorem eqI_iff (a b:Int):eqI a b=true ↔ a=b:=by
  unfold eqI
  split
  · exact ⟨fun h=>by rw [Nat.eq_of_beq_eq_true h],fun h=>by cases h;simp⟩
  · exact ⟨fun h=>by rw [Nat.eq_of_beq_eq_true h],fun h=>by cases h;simp⟩
  · rename_i h1 h2
    refine ⟨fun h=>(by cases h),fun h => ?_⟩
    subst h
    cases a with
    | ofNat n=>exact (h1 n n rfl rfl).elim
    | negSucc n=>exact (h2 n n rfl rfl).elim
theorem eqI_eq (a b:Int):eqI a b=(a == b):=by rw [Bool.eq_iff_iff,eqI_iff];simp
def ltI (a b:Int):Bool :=
  match a,b with
  | .ofNat m,.ofNat n=>Nat.blt m n
  | .negSucc _,.ofNat _=>true
  | .ofNat _,.negSucc _=>false
  | .negSucc m,.negSucc n=>Nat.blt n m
theorem ltI_eq (a b:Int):ltI a b=decide (a<b):=by
  unfold ltI
  split
  · rename_i m n
    rw [Bool.eq_iff_iff,Nat.blt_eq];simp
  · simp [Int.negSucc_eq];omega
  · simp [Int.negSucc_eq];omega
  · rename_i m n
    rw [Bool.eq_iff_iff,Nat.blt_eq];simp [Int.negSucc_eq]
def leI (a b:Int):Bool:=match ltI b a with | true=>false | false=>true
theorem leI_eq (a b:Int):leI a b=decide (a≤b):=by
  unfold leI
  rw [ltI_eq]
  by_cases h:b<a
  · simp [h]
  · simp [h];omega
def kindEq (a b:IntKind):Bool:=decide (a=b)
def intOp (op:BinOp) (k:IntKind) (a b:Int):Option KV :=
  match op with
  | .add=>some (.int k (wrapK k (addI a b)))
  | .sub=>some (.int k (wrapK k (subI a b)))
  | .mul=>some (.int k (wrapK k (a*b)))
  | .quo=>match eqI b 0 with | true=>none | false=>some (.int k (wrapK k (a.tdiv b)))
  | .rem=>match eqI b 0 with | true=>none | false=>some (.int k (a.tmod b))
  | .and=>some (.int k (k.wrap ((BitVec.ofInt k.bits a &&& BitVec.ofInt k.bits b).toNat)))
  | .or=>some (.int k (k.wrap ((BitVec.ofInt k.bits a ||| BitVec.ofInt k.bits b).toNat)))
  | .xor=>some (.int k (k.wrap ((BitVec.ofInt k.bits a ^^^ BitVec.ofInt k.bits b).toNat)))
  | .eql=>some (.bool (eqI a b))
  | .neq=>some (.bool (!(eqI a b)))
  | .lss=>some (.bool (ltI a b))
  | .leq=>some (.bool (leI a b))
  | .gtr=>some (.bool (ltI b a))
  | .geq=>some (.bool (leI b a))
  | _=>none
def shiftOp (op:BinOp) (k:IntKind) (a b:Int):Option KV :=
  match b with
  | .ofNat n=>match Nat.ble n k.bits with
    | true=>match op with
      | .shl=>some (.int k (k.wrap (a*2 ^ n)))
      | .shr=>match a with
        | .ofNat m=>some (.int k (.ofNat (Nat.shiftRight m n)))
        | _=>none
      | _=>none
    | false=>none
  | _=>none
def strOp (op:BinOp) (l n m o:Nat):Option KV :=
  match op with
  | .add=>match Nat.blt (Nat.add l m) 1000000 with
    | true=>some (.str (Nat.add l m) (Nat.add n (Nat.mul o (Nat.pow 2 (Nat.mul 8 l)))))
    | false=>none
  | .eql=>some (.bool (strEq l n m o))
  | .neq=>some (.bool (!(strEq l n m o)))
  | .lss=>some (.bool (lessK (bytesK l n) (bytesK m o)))
  | _=>none
section
variable {P:Program} {w:World} {ρ:Ren}
theorem intOp_ok {op:BinOp} {k:IntKind} {a b:Int} {r:KV} (h:intOp op k a b=some r) (t:TypeId) :
    ∃ v,(binOp op t (.int k a) (.int k b)).run P w=.ok v w∧RelV ρ r v:=by
  cases op <;> simp only [intOp] at h <;> (try cases h) <;> (try simp only [RelV])
  case quo =>
    split at h
    · cases h
    · rename_i hb
      cases h
      have:b≠0:=fun e=>by rw [(eqI_iff b 0).2 e] at hb;cases hb
      simp only [RelV]
      simp [binOp,Op.intDiv,this,wrapK_eq]
  case rem =>
    split at h
    · cases h
    · rename_i hb
      cases h
      have:b≠0:=fun e=>by rw [(eqI_iff b 0).2 e] at hb;cases hb
      simp only [RelV]
      simp [binOp,Op.intDiv,this]
  all_goals simp [binOp,Op.intArith,Op.intBits,Op.intCmp,wrapK_eq,addI_eq,subI_eq,eqI_eq,ltI_eq,leI_eq,bne]
theorem shiftOp_ok {op:BinOp} {k k':IntKind} {a b:Int} {r:KV} (h:shiftOp op k a b=some r) (t:TypeId) :
    ∃ v,(binOp op t (.int k a) (.int k' b)).run P w=.ok v w∧RelV ρ r v:=by
  unfold shiftOp at h
  split at h
  · rename_i n
    split at h
    · rename_i hn
      have hn':=Nat.le_of_ble_eq_true hn
      have hmin:min n k.bits=n:=by omega
      have hneg:¬ (Int.ofNat n<0):=by simp
      split at h
      · cases h
        simp only [RelV]
        refine ⟨_,?_,rfl⟩
        simp only [binOp,Op.shift,if_neg hneg]
        simp [hmin]
      · split at h
        · rename_i m
          cases h
          simp only [RelV]
          refine ⟨_,?_,rfl⟩
          simp only [binOp,Op.shift,if_neg hneg]
          have:(Int.ofNat m).fdiv (2 ^ n)=Int.ofNat (m.shiftRight n):=by
            show _=Int.ofNat (m >>> n)
            rw [Nat.shiftRight_eq_div_pow,Int.fdiv_eq_ediv_of_nonneg _ (by exact Int.le_of_lt (Int.pow_pos (by decide)))]
            simp
          have h0:(Int.ofNat n).toNat=n:=rfl
          rw [h0,hmin,this]
          rfl
        · cases h
      · cases h
    · cases h
  · cases h
theorem strOp_ok {op:BinOp} {l n m o:Nat} {r:KV} (h:strOp op l n m o=some r) (h1:n<256 ^ l) (h2:o<256 ^ m) (t:TypeId) :
    ∃ v,(binOp op t (.string (strOf l n)) (.string (strOf m o))).run P w=.ok v w∧RelV ρ r v:=by
  cases op <;> simp only [strOp] at h <;> (try cases h) <;> (try simp only [RelV])
  case add =>
    split at h
    · rename_i hl
      cases h
      have hl':l+m<1000000:=by simpa [Nat.blt_eq] using hl
      have hp:n.add (o.mul (Nat.pow 2 (Nat.mul 8 l)))=n+o*256 ^ l:=by
        show n+o*2 ^ (8*l)=_
        rw [pow_256]
      simp only [RelV,hp]
      refine ⟨_,?_,add_lt h1 h2,rfl⟩
      have hbig:¬ ((((strOf l n).size+(strOf m o).size:Nat):Int) > IntKind.i64.max):=by
        rw [strOf_size,strOf_size]
        simp [IntKind.max,IntKind.bits,IntKind.signed]
        omega
      simp only [binOp,Op.stringOp,if_neg hbig,strOf_append h1]
      rfl
    · cases h
  case eql=>exact ⟨_,by simp only [binOp,Op.stringOp,strEq_list h1 h2];rfl,rfl⟩
  case neq=>exact ⟨_,by simp only [binOp,Op.stringOp,strEq_list h1 h2];rfl,rfl⟩
  case lss=>exact ⟨_,by simp only [binOp,Op.stringOp,lessK_eq,strOf_toList];rfl,rfl⟩
end
end Go.Ev
namespace Go.Ev
def lsub {α:Type} : List α→Nat→Nat→List α
  | [],_,_=>[]
  | a :: r,off,n=>match off with
    | 0=>match n with | 0=>[] | m+1=>a :: lsub r 0 m
    | o+1=>lsub r o n
theorem lsub_eq {α:Type} : ∀ (l:List α) (off n:Nat),lsub l off n=(l.drop off).take n
  | [],off,n=>by simp [lsub]
  | a :: r,0,0=>by simp [lsub]
  | a :: r,0,n+1=>by simp [lsub,lsub_eq r 0 n]
  | a :: r,off+1,n=>by simp [lsub,lsub_eq r off n]
theorem RelVs.sub {ρ:Ren} {ks:List KV} {vs:List Value} (h:RelVs ρ ks vs) (off n:Nat):RelVs ρ ((ks.drop off).take n) ((vs.drop off).take n):=by
  have hl:=h.length
  refine RelVs.mk _ _ (by simp [hl]) fun i k v hk hv => ?_
  rw [List.getElem?_take] at hk hv
  split at hk
  · rename_i hi
    rw [if_pos hi,List.getElem?_drop] at hv
    rw [List.getElem?_drop] at hk
    obtain ⟨v',hv',hr⟩:=h.get _ _ hk
    rw [hv'] at hv;cases hv
    exact hr
  · cases hk
section
variable (P:Program)
def partK (t:TypeId) (cs:List KV) (off:Nat):Option KV :=
  match isAgg' P t with
  | some true=>match sizeOf' P t with
    | some n=>some (.agg (lsub cs off n))
    | none=>none
  | some false=>lget cs off
  | none=>none
variable {P}
theorem part_ok {ρ:Ren} {t:TypeId} {cs:List KV} {cs':Array Value} {off:Nat} {k:KV} (h:partK P t cs off=some k) (hr:RelVs ρ cs cs'.toList) (w:World) :
    ∃ v,(part t cs' off).run P w=.ok v w∧RelV ρ k v:=by
  unfold partK at h
  split at h
  · rename_i ha
    split at h
    · rename_i n hn
      cases h
      refine ⟨.agg (cs'.extract off (off+n)),by simp [part,run_isAgg' ha,run_sizeOf' hn],?_⟩
      simp only [RelV]
      refine ⟨_,rfl,?_⟩
      rw [lsub_eq]
      have:=hr.sub off n
      rw [Array.toList_extract,List.extract_eq_take_drop]
      simpa using this
    · cases h
  · rename_i ha
    rw [lget_eq] at h
    obtain ⟨v,hv,hrel⟩:=hr.get _ _ h
    exact ⟨v,by simp only [part,Sem.run_bind,run_isAgg' ha,Result.andThen_ok,Bool.false_eq_true,if_false];simp at hv;simp [hv],hrel⟩
  · cases h
variable (P)
noncomputable def ownK (h:Heap) (b:Nat):Bool :=
  match h.get b with
  | some (.cells _ _ false)=>true
  | _=>false
mutual
noncomputable def eqK (h:Heap):Nat→TypeId→KV→KV→Option Bool
  | 0,_,_,_=>none
  | d+1,t,x,y =>
    match P.underlying t with
    | some .bool=>match x,y with
      | .bool a,.bool b=>some (a == b)
      | _,_=>none
    | some (.int _)=>match x,y with
      | .int k a,.int k' b=>match kindEq k k' with | true=>some (eqI a b) | false=>none
      | _,_=>none
    | some .string=>match x,y with
      | .str l n,.str m o=>some (strEq l n m o)
      | _,_=>none
    | some (.pointer e)=>match x,y with
      | .nilptr,.nilptr=>some true
      | .nilptr,.ptr _ _=>some false
      | .ptr _ _,.nilptr=>some false
      | .ptr a o,.ptr b p=>match sizeOf' P e with
        | some (_+1)=>match Nat.beq a b with
          | true=>some (Nat.beq o p)
          | false=>match ownK h a,ownK h b with
            | true,true=>some false
            | _,_=>none
        | _=>none
      | _,_=>none
    | some (.slice _)=>match x,y with
      | .nilslice,.nilslice=>some true
      | .nilslice,.slice .. => some false
      | .nilslice,.eslice=>some false
      | .slice ..,.nilslice=>some false
      | .eslice,.nilslice=>some false
      | _,_=>none
    | some (.map _ _)=>match x,y with
      | .nilmap,.nilmap=>some true
      | .nilmap,.map _=>some false
      | .map _,.nilmap=>some false
      | _,_=>none
    | some (.func _ _ _)=>match x,y with
      | .nilfunc,.nilfunc=>some true
      | .nilfunc,.func .. => some false
      | .func ..,.nilfunc=>some false
      | _,_=>none
    | some (.interface _)=>match x,y with
      | .niliface,.niliface=>some true
      | .niliface,.iface .. => some false
      | .iface ..,.niliface=>some false
      | .iface t v,.iface u w=>match Nat.beq t u with
        | true=>match P.info? t with
          | some i=>match i.comparable with | true=>eqK h d t v w | false=>none
          | none=>none
        | false=>some false
      | _,_=>none
    | some (.struct fs)=>match x,y with
      | .agg xs,.agg ys=>match P.stoodInHeld t with
        | true=>none
        | false=>eqFields h d fs.toList xs ys
      | _,_=>none
    | _=>none
noncomputable def eqFields (h:Heap):Nat→List Field→List KV→List KV→Option Bool
  | 0,_,_,_=>none
  | _+1,[],_,_=>some true
  | d+1, f :: fs, xs, ys => match f.name == "_" with
    | true=>eqFields h d fs xs ys
    | false=>match partK P f.type xs f.offset,partK P f.type ys f.offset with
      | some a,some b=>match eqK h d f.type a b with
        | some true=>eqFields h d fs xs ys
        | r=>r
      | _,_=>none
end
variable {P}
variable {w0:World} {K:Nat→Prop} {ρ:Ren} {h:Heap} {nx:Nat} {w:World}
theorem own_ok (r:Rel w0 K ρ h nx w) {b c N:Nat} (hb:ownK h b=true) (hr:ρ b=some (c,N)) :
    ∃ arr elem,w.heap[c]?=some (.cells arr elem (0,0)):=by
  unfold ownK at hb
  split at hb
  · rename_i hg
    obtain ⟨o',h1,⟨arr,elem,fz,rfl,_,_,h4,_⟩,_⟩:=r.img b _ c N hg hr
    have:=h4 rfl
    subst this
    exact ⟨arr,elem,h1⟩
  · cases hb
theorem own_get {b:Nat} (hb:ownK h b=true) : ∃ o,h.get b=some o:=by
  unfold ownK at hb
  split at hb
  · exact ⟨_,‹_›⟩
  · cases hb
theorem sameAddr_ok (r:Rel w0 K ρ h nx w) {a b c c' N N' o p:Nat} (hne:a≠b) (ha:ownK h a=true) (hb:ownK h b=true) (hra:ρ a=some (c,N)) (hrb:ρ b=some (c',N')) :
    (sameAddr ⟨c,o,none⟩ ⟨c',p,none⟩).run P w=.ok false w:=by
  obtain ⟨arr,el,h1⟩:=own_ok r ha hra
  obtain ⟨arr',el',h2⟩:=own_ok r hb hrb
  have hcc:c≠c':=fun e=>by
    subst e
    obtain ⟨o1,g1⟩:=own_get ha
    obtain ⟨o2,g2⟩:=own_get hb
    exact hne (r.inj a b _ _ c N N' g1 g2 hra hrb)
  simp [sameAddr,hcc,noView,viewAt,mayBeOne,stringish,World.frozen?,World.shape?,h1,h2]
set_option maxHeartbeats 2000000 in
theorem eq_ok (r:Rel w0 K ρ h nx w) : ∀ (d:Nat),
    (∀ (t:TypeId) (x y:KV) (b:Bool) (v u:Value),eqK P h d t x y=some b→RelV ρ x v→RelV ρ y u → ∀ D,d≤D→(Op.equalIn D t v u).run P w=.ok b w) ∧
    (∀ (fs:List Field) (xs ys:List KV) (b:Bool) (vs us:Array Value),eqFields P h d fs xs ys=some b→RelVs ρ xs vs.toList→RelVs ρ ys us.toList → ∀ D,d≤D→(Op.eqFields D vs us fs).run P w=.ok b w):=by
  intro d
  induction d with
  | zero=>exact ⟨fun _ _ _ _ _ _ h=>by simp [eqK] at h,fun _ _ _ _ _ _ h=>by simp [eqFields] at h⟩
  | succ d ih =>
    obtain ⟨ih1,ih2⟩:=ih
    constructor
    · intro t x y b v u he hx hy D hD
      obtain ⟨D,rfl⟩ : ∃ D',D=D'+1:=⟨D - 1,by omega⟩
      have hD':d≤D:=by omega
      simp only [eqK] at he
      split at he
      · rename_i hu
        split at he
        · cases he;simp only [RelV] at hx hy;subst hx;subst hy
          simp [Op.equalIn,run_underlying' hu]
        · cases he
      · rename_i hu
        split at he
        · rename_i k a k' b'
          split at he
          · rename_i hk
            have:k=k':=by simpa [kindEq] using hk
            subst this
            cases he;simp only [RelV] at hx hy;subst hx;subst hy
            simp [Op.equalIn,run_underlying' hu,eqI_eq]
          · cases he
        · cases he
      · rename_i hu
        split at he
        · cases he;simp only [RelV] at hx hy
          obtain ⟨hx1,rfl⟩:=hx
          obtain ⟨hy1,rfl⟩:=hy
          simp [Op.equalIn,run_underlying' hu,strEq_beq hx1 hy1]
        · cases he
      · rename_i e hu
        split at he
        · cases he;simp only [RelV] at hx hy;subst hx;subst hy
          simp [Op.equalIn,run_underlying' hu]
        · cases he;simp only [RelV] at hx hy;subst hx;obtain ⟨c,N,_,rfl⟩:=hy
          simp [Op.equalIn,run_underlying' hu]
        · cases he;simp only [RelV] at hx hy;subst hy;obtain ⟨c,N,_,rfl⟩:=hx
          simp [Op.equalIn,run_underlying' hu]
        · rename_i a o b' p
          simp only [RelV] at hx hy
          obtain ⟨c,N,hra,rfl⟩:=hx
          obtain ⟨c',N',hrb,rfl⟩:=hy
          split at he
          · rename_i m hm
            split at he
            · rename_i hab
              have:=Nat.eq_of_beq_eq_true hab
              subst this
              rw [hra] at hrb;cases hrb
              cases he
              simp only [Op.equalIn,Sem.run_bind,run_underlying' hu,Result.andThen_ok,run_sizeOf' hm]
              have hbo:(decide (o=p))=Nat.beq o p:=by rw [Bool.eq_iff_iff];simp
              have:((⟨c,o,none⟩:Addr) == ⟨c,p,none⟩)=Nat.beq o p:=by rw [← hbo,Bool.eq_iff_iff];simp
              simp [sameAddr,this]
            · rename_i hab
              split at he
              · rename_i h1 h2
                cases he
                have hne:a≠b':=fun e=>by subst e;simp at hab
                simp only [Op.equalIn,Sem.run_bind,run_underlying' hu,Result.andThen_ok,run_sizeOf' hm]
                simp [sameAddr_ok r hne h1 h2 hra hrb]
              · cases he
          · cases he
        · cases he
      · rename_i hu
        split at he <;> cases he <;> simp only [RelV] at hx hy
        · subst hx;subst hy;simp [Op.equalIn,run_underlying' hu]
        · subst hx;obtain ⟨c,N,cap',_,rfl,_⟩:=hy;simp [Op.equalIn,run_underlying' hu]
        · subst hx;obtain ⟨c,cap',rfl⟩:=hy;simp [Op.equalIn,run_underlying' hu]
        · subst hy;obtain ⟨c,N,cap',_,rfl,_⟩:=hx;simp [Op.equalIn,run_underlying' hu]
        · subst hy;obtain ⟨c,cap',rfl⟩:=hx;simp [Op.equalIn,run_underlying' hu]
      · rename_i hu
        split at he <;> cases he <;> simp only [RelV] at hx hy
        · subst hx;subst hy;simp [Op.equalIn,run_underlying' hu]
        · subst hx;obtain ⟨c,N,_,rfl⟩:=hy;simp [Op.equalIn,run_underlying' hu]
        · subst hy;obtain ⟨c,N,_,rfl⟩:=hx;simp [Op.equalIn,run_underlying' hu]
      · rename_i hu
        split at he <;> cases he <;> simp only [RelV] at hx hy
        · subst hx;subst hy;simp [Op.equalIn,run_underlying' hu]
        · subst hx;obtain ⟨_,_,_,_,rfl,_⟩:=hy;simp [Op.equalIn,run_underlying' hu]
        · subst hy;obtain ⟨_,_,_,_,rfl,_⟩:=hx;simp [Op.equalIn,run_underlying' hu]
      · rename_i hu
        split at he
        · cases he;simp only [RelV] at hx hy;subst hx;subst hy;simp [Op.equalIn,run_underlying' hu]
        · cases he;simp only [RelV] at hx hy;subst hx;obtain ⟨_,rfl,_⟩:=hy;simp [Op.equalIn,run_underlying' hu]
        · cases he;simp only [RelV] at hx hy;subst hy;obtain ⟨_,rfl,_⟩:=hx;simp [Op.equalIn,run_underlying' hu]
        · rename_i t1 v1 u1 w1
          simp only [RelV] at hx hy
          obtain ⟨x',rfl,hx⟩:=hx
          obtain ⟨y',rfl,hy⟩:=hy
          split at he
          · rename_i htu
            have:=Nat.eq_of_beq_eq_true htu
            subst this
            split at he
            · rename_i i hi
              split at he
              · rename_i hc
                simp [Op.equalIn,run_underlying' hu,run_typeInfo' hi,hc,ih1 _ _ _ _ _ _ he hx hy D hD']
              · cases he
            · cases he
          · rename_i htu
            cases he
            have hne:¬ (t1=u1):=fun e=>by subst e;simp at htu
            simp [Op.equalIn,run_underlying' hu,hne]
        · cases he
      · rename_i fs hu
        split at he
        · rename_i xs ys
          simp only [RelV] at hx hy
          obtain ⟨vs,rfl,hx⟩:=hx
          obtain ⟨us,rfl,hy⟩:=hy
          split at he
          · cases he
          · rename_i hs
            have hf:P.fieldsOf t=fs:=by simp [Program.fieldsOf,hu]
            rw [run_equalIn_struct w D t vs us (by rw [hf];exact hu) hs,hf]
            exact ih2 _ _ _ _ _ _ he hx hy D hD'
        · cases he
      · cases he
    · intro fs xs ys b vs us he hx hy D hD
      have hD':d≤D:=by omega
      cases fs with
      | nil=>simp [eqFields] at he;subst he;simp [Op.eqFields]
      | cons f fs =>
        simp only [eqFields] at he
        split at he
        · rename_i hn
          have hn' : f.name = "_" := by simpa using hn
          simp only [Op.eqFields,hn',ne_eq,not_true,if_false]
          exact ih2 _ _ _ _ _ _ he hx hy D hD'
        · rename_i hn
          have hn' : ¬ (f.name = "_") := by simpa using hn
          split at he
          · rename_i a c ha hc
            obtain ⟨va,ha1,ha2⟩:=part_ok (P:=P) ha hx w
            obtain ⟨vc,hc1,hc2⟩:=part_ok (P:=P) hc hy w
            simp only [Op.eqFields,ne_eq,hn',not_false_eq_true,if_true,Sem.run_bind,ha1,Result.andThen_ok,hc1]
            split at he
            · rename_i hq
              have:=ih1 _ _ _ _ _ _ hq ha2 hc2 D hD'
              rw [this]
              simpa using ih2 _ _ _ _ _ _ he hx hy D hD'
            · rename_i hq
              have:=ih1 _ _ _ _ _ _ he ha2 hc2 D hD'
              rw [this]
              cases b
              · simp
              · exact absurd he (by simpa using hq)
          · cases he
end
end Go.Ev
