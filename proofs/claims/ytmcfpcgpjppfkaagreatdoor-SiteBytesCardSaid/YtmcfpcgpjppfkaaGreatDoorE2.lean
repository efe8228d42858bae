/- The evaluator of closed runs, part 2 of 4: an interpreter of the model's code over values with abstract blocks, and the proof that what it answers is what the machine does. Conditions: those that its theorems state. -/
import Derived.Test.YtmcfpcgpjppfkaaGreatDoorE1
import Derived.Laws.BytesString
import GoSem.Builtin.Append
import GoSem.Builtin.Copy
import GoSem.Builtin.Clear
namespace Go.Ev
def isConstOp:Operand→Bool
  | .const _=>true
  | _=>false
section
variable (P:Program)
def guardK (op:BinOp) (t:TypeId) (x y:Operand) (a b:KV):Bool :=
  match op with
  | .eql | .neq=>match a,b with
    | .niliface,.niliface=>isConstOp x || isConstOp y
    | .agg _,.agg _ => !(P.eqGuardType P.depth t)
    | _,_=>true
  | _=>false
noncomputable def binK (h:Heap) (op:BinOp) (t:TypeId) (x y:Operand) (a b:KV):Option KV :=
  match a,b with
  | .int k m,.int k' n=>match op with
    | .shl=>shiftOp op k m n
    | .shr=>shiftOp op k m n
    | _=>match kindEq k k' with | true=>intOp op k m n | false=>none
  | .str l n,.str m o=>strOp op l n m o
  | a,b=>match guardK P op t x y a b with
    | true=>match op with
      | .eql=>match eqK P h 200 t a b with | some r=>some (.bool r) | none=>none
      | .neq=>match eqK P h 200 t a b with | some r=>some (.bool (!r)) | none=>none
      | _=>none
    | false=>none
def unK (op:UnOp) (a:KV):Option KV :=
  match op,a with
  | .neg,.int k n=>some (.int k (wrapK k (subI 0 n)))
  | .not,.bool b=>some (.bool (!b))
  | _,_=>none
variable {P}
variable {w0:World} {K:Nat→Prop} {ρ:Ren} {h:Heap} {nx:Nat} {w:World}
theorem unK_ok {op:UnOp} {a r:KV} {v:Value} (he:unK op a=some r) (ha:RelV ρ a v) : ∃ u,(Op.unary op v).run P w=.ok u w∧RelV ρ r u:=by
  unfold unK at he
  split at he
  · cases he;simp only [RelV] at ha ⊢;subst ha
    exact ⟨_,rfl,by rw [wrapK_eq,subI_eq]⟩
  · cases he;simp only [RelV] at ha ⊢;subst ha
    exact ⟨_,rfl,rfl⟩
  · cases he
theorem inv_int {a:KV} {k:IntKind} {n:Int} (h:RelV ρ a (.int k n)):a=.int k n:=by
  cases a <;> simp [RelV] at h
  simp [h]
theorem inv_float {a:KV} {k:FloatKind} {n:Nat} (h:RelV ρ a (.float k n)):False:=by cases a <;> simp [RelV] at h
theorem inv_complex {a:KV} {k:FloatKind} {n m:Nat} (h:RelV ρ a (.complex k n m)):False:=by cases a <;> simp [RelV] at h
theorem inv_string {a:KV} {s:ByteArray} (h:RelV ρ a (.string s)) : ∃ l n,a=.str l n:=by
  cases a <;> simp [RelV] at h
  exact ⟨_,_,rfl⟩
theorem inv_niliface {a:KV} (h:RelV ρ a .nilIface):a=.niliface:=by cases a <;> simp [RelV] at h;rfl
theorem inv_agg {a:KV} {cs:Array Value} (h:RelV ρ a (.agg cs)) : ∃ l,a=.agg l:=by
  cases a <;> simp [RelV] at h
  exact ⟨_,rfl⟩
theorem guard_ok {op:BinOp} {t:TypeId} {x y:Operand} {a b:KV} {va vb:Value} (hg:guardK P op t x y a b=true) (ha:RelV ρ a va) (hb:RelV ρ b vb) (w:World) :
    (eqGuard op t x y va vb).run P w=.ok () w:=by
  cases op <;> simp only [guardK] at hg <;> (try (cases hg;done))
  all_goals
    unfold eqGuard
    simp only [Bool.not_true,Bool.false_eq_true,if_false]
    split
    · have e1:=inv_niliface ha
      have e2:=inv_niliface hb
      subst e1;subst e2
      cases x <;> cases y <;> simp_all [isConstOp]
    · obtain ⟨_,rfl⟩:=inv_agg ha
      obtain ⟨_,rfl⟩:=inv_agg hb
      simp only [Bool.not_eq_true'] at hg
      simp [hg]
    · rfl
theorem binOp_eql {t:TypeId} {a b:KV} {va vb:Value} (ha:RelV ρ a va) (hb:RelV ρ b vb)
    (hn1 : ∀ (k:IntKind) (m:Int) (k':IntKind) (n:Int),a=.int k m→b=.int k' n→False) (hn2 : ∀ (l n m o:Nat),a=.str l n→b=.str m o→False) :
    binOp .eql t va vb=(do pure (.bool (← Op.equal t va vb))):=by
  unfold binOp
  split <;> first
    | rfl
    | (exfalso;exact hn1 _ _ _ _ (inv_int ha) (inv_int hb))
    | (exfalso;exact inv_float ha)
    | (exfalso;exact inv_complex ha)
    | (exfalso;obtain ⟨_,_,e1⟩:=inv_string ha;obtain ⟨_,_,e2⟩:=inv_string hb;exact hn2 _ _ _ _ e1 e2)
    | (exfalso;rename_i h _;exact h rfl)
    | contradiction
    | simp_all
theorem binOp_neq {t:TypeId} {a b:KV} {va vb:Value} (ha:RelV ρ a va) (hb:RelV ρ b vb)
    (hn1 : ∀ (k:IntKind) (m:Int) (k':IntKind) (n:Int),a=.int k m→b=.int k' n→False) (hn2 : ∀ (l n m o:Nat),a=.str l n→b=.str m o→False) :
    binOp .neq t va vb=(do pure (.bool (!(← Op.equal t va vb)))):=by
  unfold binOp
  split <;> first
    | rfl
    | (exfalso;exact hn1 _ _ _ _ (inv_int ha) (inv_int hb))
    | (exfalso;exact inv_float ha)
    | (exfalso;exact inv_complex ha)
    | (exfalso;obtain ⟨_,_,e1⟩:=inv_string ha;obtain ⟨_,_,e2⟩:=inv_string hb;exact hn2 _ _ _ _ e1 e2)
    | (exfalso;rename_i h _;exact h rfl)
    | contradiction
    | simp_all
theorem binK_ok (r:Rel w0 K ρ h nx w) {op:BinOp} {t:TypeId} {x y:Operand} {a b k:KV} {va vb:Value} (he:binK P h op t x y a b=some k) (ha:RelV ρ a va) (hb:RelV ρ b vb) :
    ∃ v,(do eqGuard op t x y va vb;binOp op t va vb:Sem Value).run P w=.ok v w∧RelV ρ k v:=by
  unfold binK at he
  split at he
  · rename_i k1 m k2 n
    simp only [RelV] at ha hb
    subst ha;subst hb
    have hgd:(eqGuard op t x y (.int k1 m) (.int k2 n)).run P w=.ok () w:=by
      unfold eqGuard;split <;> rfl
    simp only [Sem.run_bind,hgd,Result.andThen_ok]
    split at he
    · exact shiftOp_ok he t
    · exact shiftOp_ok he t
    · split at he
      · rename_i hk
        have:k1=k2:=by simpa [kindEq] using hk
        subst this
        exact intOp_ok he t
      · cases he
  · rename_i l n m o
    simp only [RelV] at ha hb
    obtain ⟨h1,rfl⟩:=ha
    obtain ⟨h2,rfl⟩:=hb
    have hgd:(eqGuard op t x y (.string (strOf l n)) (.string (strOf m o))).run P w=.ok () w:=by
      unfold eqGuard;split <;> rfl
    simp only [Sem.run_bind,hgd,Result.andThen_ok]
    exact strOp_ok he h1 h2 t
  · rename_i hn1 hn2
    split at he
    · rename_i hg
      have hgd:=guard_ok hg ha hb w
      simp only [Sem.run_bind,hgd,Result.andThen_ok]
      have hbin : ∀ q,eqK P h 200 t a b=some q→(op=.eql→(binOp op t va vb).run P w=.ok (.bool q) w)∧(op=.neq→(binOp op t va vb).run P w=.ok (.bool (!q)) w):=by
        intro q hq
        have hrun:(Op.equal t va vb).run P w=.ok q w:=(eq_ok r 200).1 t a b q va vb hq ha hb 10000 (by omega)
        exact ⟨by rintro rfl;rw [binOp_eql ha hb hn1 hn2];simp [hrun],by rintro rfl;rw [binOp_neq ha hb hn1 hn2];simp [hrun]⟩
      split at he
      · split at he
        · rename_i q hq
          cases he
          exact ⟨_,(hbin q hq).1 rfl,by simp [RelV]⟩
        · cases he
      · split at he
        · rename_i q hq
          cases he
          exact ⟨_,(hbin q hq).2 rfl,by simp [RelV]⟩
        · cases he
      · cases he
    · cases he
end
end Go.Ev
namespace Go.Ev
def kint:KV→Option Int
  | .int _ n=>some n
  | _=>none
def natLt (n:Int) (m:Nat):Option Nat :=
  match n with
  | .ofNat k=>match Nat.blt k m with | true=>some k | false=>none
  | .negSucc _=>none
def natLe (n:Int) (m:Nat):Option Nat :=
  match n with
  | .ofNat k=>match Nat.ble k m with | true=>some k | false=>none
  | .negSucc _=>none
theorem natLt_ok {n:Int} {m k:Nat} (h:natLt n m=some k):n=(k:Int)∧k<m:=by
  unfold natLt at h
  split at h
  · split at h
    · rename_i hb;cases h;exact ⟨rfl,by simpa [Nat.blt_eq] using hb⟩
    · cases h
  · cases h
theorem natLe_ok {n:Int} {m k:Nat} (h:natLe n m=some k):n=(k:Int)∧k≤m:=by
  unfold natLe at h
  split at h
  · split at h
    · rename_i hb;cases h;exact ⟨rfl,Nat.le_of_ble_eq_true hb⟩
    · cases h
  · cases h
section
variable (P:Program)
def fieldsOf' (t:TypeId):Option (List Field) :=
  match P.underlying t with
  | some (.struct fs)=>some fs.toList
  | _=>none
def sliceElem (t:TypeId):Option TypeId :=
  match P.underlying t with
  | some (.slice e)=>some e
  | _=>none
def fieldAddrK (s:TypeId) (f:Nat) (x:KV):Option KV :=
  match x,fieldsOf' P s with
  | .ptr b off,some fs=>match lget fs f with
    | some fd=>match sizeOf' P fd.type with
      | some (_+1)=>some (.ptr b (Nat.add off fd.offset))
      | _=>none
    | none=>none
  | _,_=>none
def fieldK (t:TypeId) (f:Nat) (x:KV):Option KV :=
  match x,fieldsOf' P t with
  | .agg cs,some fs=>match lget fs f with
    | some fd=>partK P fd.type cs fd.offset
    | none=>none
  | _,_=>none
def indexAddrK (t:TypeId) (x i:KV):Option KV :=
  match kint i with
  | none=>none
  | some i=>match P.underlying t,x with
    | some (.array n e),.ptr b off=>match sizeOf' P e with
      | none=>none
      | some s=>match natLt i n with
        | none=>none
        | some k=>some (.ptr b (Nat.add off (Nat.mul k s)))
    | some (.slice e),.slice b off len _ _ _=>match sizeOf' P e with
      | none=>none
      | some s=>match natLt i len with
        | none=>none
        | some k=>some (.ptr b (Nat.add off (Nat.mul k s)))
    | _,_=>none
def indexK (t:TypeId) (x i:KV):Option KV :=
  match kint i with
  | none=>none
  | some i=>match P.underlying t,x with
    | some (.array n e),.agg cs=>match sizeOf' P e with
      | none=>none
      | some s=>match natLt i n with
        | none=>none
        | some k=>partK P e cs (Nat.mul k s)
    | some .string,.str l n=>match natLt i l with
      | none=>none
      | some k=>some (.int .u8 (.ofNat (byteAt n k)))
    | _,_=>none
def extractK (x:KV) (i:Nat):Option KV :=
  match x with
  | .tuple vs=>lget vs i
  | _=>none
def makeInterfaceK (t:TypeId) (x:KV):Option KV :=
  match P.underlying t with
  | some (.interface _)=>none
  | some _=>some (.iface t x)
  | none=>none
def typeAssertK (x:KV) (t:TypeId) (ok:Bool):Option KV :=
  match P.underlying t with
  | some (.interface _)=>none
  | some _=>match x with
    | .niliface=>match ok,zeroOf P t with
      | true,some z=>some (.tuple [z,.bool false])
      | _,_=>none
    | .iface u v=>match Nat.beq u t with
      | true=>some (match ok with | true=>.tuple [v,.bool true] | false=>v)
      | false=>match ok,zeroOf P t with
        | true,some z=>some (.tuple [z,.bool false])
        | _,_=>none
    | _=>none
  | none=>none
noncomputable def lenK (h:Heap) (t:TypeId) (x:KV):Option Nat :=
  match P.underlying t,x with
  | some .string,.str l _=>some l
  | some (.array n _),_=>some n
  | some (.pointer a),_=>match P.underlying a with | some (.array n _)=>some n | _=>none
  | some (.slice _),.nilslice=>some 0
  | some (.slice _),.eslice=>some 0
  | some (.slice _),.slice _ _ l _ _ _=>some l
  | some (.map _ _),.nilmap=>some 0
  | some (.map _ _),.map b=>match h.get b with
    | some (.map es)=>some (nlen es)
    | _=>none
  | _,_=>none
def capK (t:TypeId) (x:KV):Option KV :=
  match P.underlying t with
  | some (.slice _)=>match x with
    | .slice _ _ _ cap _ true=>some (.int .i64 (.ofNat cap))
    | .nilslice=>some (.int .i64 (.ofNat 0))
    | _=>none
  | _=>none
def boundK (v:Option KV) (dflt:Nat) (most:Nat):Option Nat :=
  match v with
  | none=>some dflt
  | some (.int _ n)=>natLe n most
  | some _=>none
def exOf (mx:Option KV) (ex:Bool):Bool :=
  match mx with
  | some _=>true
  | none=>ex
def sliceK (t : TypeId) (x:KV) (lo hi mx:Option KV):Option KV :=
  match P.underlying t,x with
  | some .string,.str l n=>match mx with
    | some _=>none
    | none=>match boundK hi l l with
      | none=>none
      | some e=>match boundK lo 0 e with
        | none=>none
        | some b=>match Nat.ble e l with
          | true=>match Nat.ble b e with
            | true=>some (.str (Nat.sub e b) (subStr n b e))
            | false=>none
          | false=>none
  | some (.slice el), .slice b off len cap es ex=>match sizeOf' P el with
    | none=>none
    | some s => match Nat.beq s es with
      | false=>none
      | true => match mx,hi with
        | some _,none=>none
        | _, _ => match boundK mx cap cap with
          | none=>none
          | some m => match boundK hi len m with
            | none=>none
            | some e=>match boundK lo 0 e with
              | none=>none
              | some l=>match Nat.ble e m,Nat.ble l e,Nat.ble m cap with
                | true,true,true =>
                  let ex':=exOf mx ex
                  match Nat.beq m l with
                  | false=>some (.slice b (Nat.add off (Nat.mul l s)) (Nat.sub e l) (Nat.sub m l) es ex')
                  | true=>match ex' with
                    | true=>some (.slice b off (Nat.sub e l) (Nat.sub m l) es true)
                    | false=>match l with
                      | 0=>some (.slice b off (Nat.sub e l) (Nat.sub m l) es ex')
                      | _+1=>some .eslice
                | _,_,_=>none
  | some (.slice el),.nilslice=>match sizeOf' P el with
    | none=>none
    | some _=>match mx,hi with
      | some _,none=>none
      | _,_=>match boundK mx 0 0 with
        | none=>none
        | some m=>match boundK hi 0 m with
          | none=>none
          | some e=>match boundK lo 0 e with
            | none=>none
            | some _=>some .nilslice
  | some (.slice el),.eslice=>match sizeOf' P el with
    | none=>none
    | some _=>match lo,hi,mx with
      | none,none,none=>some .eslice
      | _,_,_=>none
  | _,_=>none
def min2K (a b:KV):Option KV :=
  match a,b with
  | .int k m,.int _ n=>some (.int k (match ltI n m with | true=>n | false=>m))
  | _,_=>none
def max2K (a b:KV):Option KV :=
  match a,b with
  | .int k m,.int _ n=>some (.int k (match ltI m n with | true=>n | false=>m))
  | _,_=>none
def foldK (f:KV→KV→Option KV):KV→List KV→Option KV
  | a,[]=>some a
  | a,b :: r=>match f a b with | some c=>foldK f c r | none=>none
variable {P}
variable {w0:World} {K:Nat→Prop} {ρ:Ren} {h:Heap} {nx:Nat} {w:World}
theorem fieldsOf'_ok {t:TypeId} {fs:List Field} (h:fieldsOf' P t=some fs) : ∃ a:Array Field,P.underlying t=some (.struct a)∧a.toList=fs:=by
  unfold fieldsOf' at h
  split at h
  · cases h;exact ⟨_,‹_›,rfl⟩
  · cases h
theorem sliceElem_ok {t e:TypeId} (h:sliceElem P t=some e):P.underlying t=some (.slice e):=by
  unfold sliceElem at h
  split at h
  · cases h;assumption
  · cases h
theorem fieldAddr_ok {s:TypeId} {f:Nat} {x k:KV} {v:Value} (he:fieldAddrK P s f x=some k) (hx:RelV ρ x v) :
    ∃ u,(Instr.fieldAt s v f).run P w=.ok u w∧RelV ρ k u:=by
  unfold fieldAddrK at he
  split at he
  · rename_i b off fs hfs
    obtain ⟨a,hu,rfl⟩:=fieldsOf'_ok hfs
    simp only [RelV] at hx
    obtain ⟨c,N,hr,rfl⟩:=hx
    split at he
    · rename_i fd hfd
      rw [lget_eq] at hfd
      have hfd':a[f]?=some fd:=by simpa using hfd
      split at he
      · rename_i m hm
        cases he
        refine ⟨.pointer (some ⟨c,off+fd.offset,none⟩),?_,by simp only [RelV];exact ⟨c,N,hr,rfl⟩⟩
        simp [Instr.fieldAt,run_underlying' hu,hfd',Instr.sureAddr,fieldPlace,run_sizeOf' hm,addr_add]
      · cases he
    · cases he
  · cases he
theorem field_ok {t:TypeId} {f:Nat} {x k:KV} {v:Value} (he:fieldK P t f x=some k) (hx:RelV ρ x v) :
    ∃ u,(Instr.field t v f).run P w=.ok u w∧RelV ρ k u:=by
  unfold fieldK at he
  split at he
  · rename_i cs fs hfs
    obtain ⟨a,hu,rfl⟩:=fieldsOf'_ok hfs
    simp only [RelV] at hx
    obtain ⟨cs',rfl,hx⟩:=hx
    split at he
    · rename_i fd hfd
      rw [lget_eq] at hfd
      have hfd':a[f]?=some fd:=by simpa using hfd
      obtain ⟨u,h1,h2⟩:=part_ok he hx w
      exact ⟨u,by simp [Instr.field,run_underlying' hu,hfd',asAgg,h1],h2⟩
    · cases he
  · cases he
theorem kint_ok {i:KV} {n:Int} {v:Value} (h:kint i=some n) (hv:RelV ρ i v) : ∃ k,v=.int k n:=by
  unfold kint at h
  split at h
  · cases h;simp only [RelV] at hv;exact ⟨_,hv⟩
  · cases h
theorem indexAddr_ok {t:TypeId} {x i k:KV} {v vi:Value} (he:indexAddrK P t x i=some k) (hx:RelV ρ x v) (hi:RelV ρ i vi) :
    ∃ u,(Instr.indexAt t v vi).run P w=.ok u w∧RelV ρ k u:=by
  unfold indexAddrK at he
  split at he
  · cases he
  · rename_i n hn
    obtain ⟨ki,rfl⟩:=kint_ok hn hi
    split at he
    · rename_i m e b off hu
      simp only [RelV] at hx
      obtain ⟨c,N,hr,rfl⟩:=hx
      split at he
      · cases he
      · rename_i s hs
        split at he
        · cases he
        · rename_i q hq
          obtain ⟨rfl,hlt⟩:=natLt_ok hq
          cases he
          refine ⟨.pointer (some ⟨c,off+q*s,none⟩),?_,by simp only [RelV];exact ⟨c,N,hr,rfl⟩⟩
          have:(0:Int)≤(q:Int)∧(q:Int)<(m:Int):=by omega
          simp [Instr.indexAt,asIntOf,run_underlying' hu,Instr.sureAddr,this,run_sizeOf' hs,addr_add,hlt]
    · rename_i e b off len cap es ex hu
      simp only [RelV] at hx
      obtain ⟨c,N,cap',hr,rfl,_⟩:=hx
      split at he
      · cases he
      · rename_i s hs
        split at he
        · cases he
        · rename_i q hq
          obtain ⟨rfl,hlt⟩:=natLt_ok hq
          cases he
          refine ⟨.pointer (some ⟨c,off+q*s,none⟩),?_,by simp only [RelV];exact ⟨c,N,hr,rfl⟩⟩
          have:(0:Int)≤(q:Int)∧(q:Int)<(len:Int):=by omega
          simp [Instr.indexAt,asIntOf,run_underlying' hu,this,run_sizeOf' hs,addr_add,hlt]
    · cases he
theorem index_ok {t:TypeId} {x i k:KV} {v vi:Value} (he:indexK P t x i=some k) (hx:RelV ρ x v) (hi:RelV ρ i vi) :
    ∃ u,(Instr.index t v vi).run P w=.ok u w∧RelV ρ k u:=by
  unfold indexK at he
  split at he
  · cases he
  · rename_i n hn
    obtain ⟨ki,rfl⟩:=kint_ok hn hi
    split at he
    · rename_i m e cs hu
      simp only [RelV] at hx
      obtain ⟨cs',rfl,hx⟩:=hx
      split at he
      · cases he
      · rename_i s hs
        split at he
        · cases he
        · rename_i q hq
          obtain ⟨rfl,hlt⟩:=natLt_ok hq
          obtain ⟨u,h1,h2⟩:=part_ok he hx w
          refine ⟨u,?_,h2⟩
          have:(0:Int)≤(q:Int)∧(q:Int)<(m:Int):=by omega
          have h1':(part e cs' (q*s)).run P w=.ok u w:=h1
          simp [Instr.index,asIntOf,run_underlying' hu,this,run_sizeOf' hs,hlt,h1']
    · rename_i l s hu
      simp only [RelV] at hx
      obtain ⟨_,rfl⟩:=hx
      split at he
      · cases he
      · rename_i q hq
        obtain ⟨rfl,hlt⟩:=natLt_ok hq
        cases he
        refine ⟨.int .u8 (Int.ofNat (byteAt s q)),?_,by simp only [RelV]⟩
        have h2:byteAt s q<256:=Nat.mod_lt _ (by omega)
        simp [Instr.index,asIntOf,run_underlying' hu,strOf_get hlt]
        omega
    · cases he
theorem extract_ok {x k:KV} {i:Nat} {v:Value} (he:extractK x i=some k) (hx:RelV ρ x v) : ∃ u,(Instr.extract v i).run P w=.ok u w∧RelV ρ k u:=by
  unfold extractK at he
  split at he
  · simp only [RelV] at hx
    obtain ⟨cs',rfl,hx⟩:=hx
    rw [lget_eq] at he
    obtain ⟨u,h1,h2⟩:=hx.get _ _ he
    exact ⟨u, by have h1':cs'[i]?=some u:=by simpa using h1
                 simp [Instr.extract,h1'],h2⟩
  · cases he
theorem makeInterface_ok {t:TypeId} {x k:KV} {v:Value} (he:makeInterfaceK P t x=some k) (hx:RelV ρ x v) :
    ∃ u,(Instr.makeInterface t v).run P w=.ok u w∧RelV ρ k u:=by
  unfold makeInterfaceK at he
  split at he
  · cases he
  · rename_i d hni hu
    cases he
    refine ⟨.iface t v,?_,by simp only [RelV];exact ⟨v,rfl,hx⟩⟩
    simp only [Instr.makeInterface,Sem.run_bind,run_underlying' hu,Result.andThen_ok]
    cases d <;> first | exact absurd rfl (hni _) | rfl
  · cases he
theorem typeAssert_ok {t xt:TypeId} {x k:KV} {ok:Bool} {v:Value} (he:typeAssertK P x t ok=some k) (hx:RelV ρ x v) :
    ∃ u,(Instr.typeAssert v xt t ok).run P w=.ok u w∧RelV ρ k u:=by
  unfold typeAssertK at he
  split at he
  · cases he
  · rename_i d hni hu
    split at he
    · simp only [RelV] at hx;subst hx
      split at he
      · rename_i z hz
        cases he
        obtain ⟨vz,h1,h2⟩:=run_zeroOf (ρ:=ρ) hz w
        refine ⟨.tuple #[vz,.bool false],?_,by simp only [RelV,RelVs];exact ⟨_,rfl,_,_,rfl,h2,_,_,rfl,rfl,rfl⟩⟩
        simp only [Instr.typeAssert,Sem.run_bind,run_underlying' hu,Result.andThen_ok]
        cases d <;> first | exact absurd rfl (hni _) | simp [h1]
      · cases he
    · rename_i u1 v1
      simp only [RelV] at hx
      obtain ⟨x',rfl,hx⟩:=hx
      split at he
      · rename_i hut
        have:=Nat.eq_of_beq_eq_true hut
        subst this
        cases he
        cases ok
        · refine ⟨x',?_,hx⟩
          simp only [Instr.typeAssert,Sem.run_bind,run_underlying' hu,Result.andThen_ok]
          cases d <;> first | exact absurd rfl (hni _) | simp
        · refine ⟨.tuple #[x',.bool true],?_,by simp only [RelV,RelVs];exact ⟨_,rfl,_,_,rfl,hx,_,_,rfl,rfl,rfl⟩⟩
          simp only [Instr.typeAssert,Sem.run_bind,run_underlying' hu,Result.andThen_ok]
          cases d <;> first | exact absurd rfl (hni _) | simp
      · rename_i hut
        have hne:¬ (u1=t):=fun e=>by subst e;simp at hut
        split at he
        · rename_i z hz
          cases he
          obtain ⟨vz,h1,h2⟩:=run_zeroOf (ρ:=ρ) hz w
          refine ⟨.tuple #[vz,.bool false],?_,by simp only [RelV,RelVs];exact ⟨_,rfl,_,_,rfl,h2,_,_,rfl,rfl,rfl⟩⟩
          simp only [Instr.typeAssert,Sem.run_bind,run_underlying' hu,Result.andThen_ok]
          cases d <;> first | exact absurd rfl (hni _) | simp [hne,h1]
        · cases he
    · cases he
  · cases he
end
end Go.Ev
namespace Go.Ev
section
variable {P:Program}
variable {w0:World} {K:Nat→Prop} {ρ:Ren} {h:Heap} {nx:Nat} {w:World}
theorem RelE.length {ρ:Ren} : ∀ {es:List (KV × KV)} {l:List MapEntry},RelE ρ es l→l.length=es.length
  | [],_,h=>by simp only [RelE] at h;subst h;rfl
  | (_,_) :: r,_,h=>by
    simp only [RelE] at h
    obtain ⟨e,s,rfl,_,_,h4⟩:=h
    simp [h4.length]
theorem len_ok (r:Rel w0 K ρ h nx w) {t ty:TypeId} {at':Array TypeId} {x:KV} {n:Nat} {v:Value} {args:Array Value} (ht:at'[0]?=some t) (ha:args[0]?=some v) (he:lenK P h t x=some n) (hx:RelV ρ x v) :
    (Builtin.len_ at' ty args).run P w=.ok (goInt n) w:=by
  simp only [Builtin.len_,ht,ha]
  unfold lenK at he
  split at he
  · rename_i hu;cases he;simp only [RelV] at hx;obtain ⟨_,rfl⟩:=hx
    simp [run_underlying' hu,strOf_size]
  · rename_i hu;cases he
    simp only [Sem.run_bind,run_underlying' hu,Result.andThen_ok]
    rfl
  · rename_i a hu
    split at he
    · rename_i hua;cases he
      simp only [Sem.run_bind,run_underlying' hu,Result.andThen_ok,run_underlying' hua]
      rfl
    · cases he
  · rename_i hu;cases he;simp only [RelV] at hx;subst hx;simp [run_underlying' hu]
  · rename_i hu;cases he;simp only [RelV] at hx;obtain ⟨_,_,rfl⟩:=hx;simp [run_underlying' hu]
  · rename_i hu;cases he;simp only [RelV] at hx;obtain ⟨_,_,_,_,rfl,_⟩:=hx;simp [run_underlying' hu]
  · rename_i hu;cases he;simp only [RelV] at hx;subst hx;simp [run_underlying' hu]
  · rename_i b hu
    simp only [RelV] at hx;obtain ⟨c,N,hr,rfl⟩:=hx
    split at he
    · rename_i es hb
      cases he
      obtain ⟨o',h1,⟨ents,clock,rfl,_,l,hp,hrel⟩,_⟩:=r.img b _ c N hb hr
      have hlen:ents.size=nlen es:=by rw [nlen_eq,← hrel.length,hp.length_eq];simp
      simp [run_underlying' hu,getObj,Sem.run,h1,hlen]
    · cases he
  · cases he
theorem cap_ok {t ty:TypeId} {at':Array TypeId} {x k:KV} {v:Value} {args:Array Value} (ht:at'[0]?=some t) (ha:args[0]?=some v) (he:capK P t x=some k) (hx:RelV ρ x v) :
    ∃ u,(Builtin.cap_ at' ty args).run P w=.ok u w∧RelV ρ k u:=by
  simp only [Builtin.cap_,ht,ha]
  unfold capK at he
  split at he
  · rename_i hu
    split at he
    · cases he;simp only [RelV] at hx;obtain ⟨_,_,cap',_,rfl,_,_,hc,_⟩:=hx
      exact ⟨goInt cap',by simp [run_underlying' hu],by simp only [RelV];rw [hc trivial];rfl⟩
    · cases he;simp only [RelV] at hx;subst hx
      exact ⟨goInt 0,by simp [run_underlying' hu],by simp only [RelV];rfl⟩
    · cases he
  · cases he
theorem bound_ok {v:Option KV} {d m n:Nat} {u:Option Value} {code:BoundsCode} (hv:match v,u with | none,none=>True | some k,some x=>RelV ρ k x | _,_=>False) (hb:boundK v d m=some n) :
    match u with
    | none=>n=d
    | some x=>(Instr.sliceBound x m code).run P w=.ok n w∧n≤m:=by
  unfold boundK at hb
  split at hb
  · cases hb
    cases u with
    | none=>rfl
    | some x=>exact hv.elim
  · cases u with
    | none=>exact hv.elim
    | some x =>
      simp only [RelV] at hv
      subst hv
      obtain ⟨rfl,hle⟩:=natLe_ok hb
      refine ⟨?_,hle⟩
      have:(0:Int)≤(n:Int)∧(n:Int)≤(m:Int):=by omega
      simp [Instr.sliceBound,asIntOf,hle]
  · cases hb
def RelOpt (ρ:Ren) (k:Option KV) (v:Option Value):Prop :=
  match k,v with
  | none,none=>True
  | some k,some x=>RelV ρ k x
  | _,_=>False
theorem RelOpt.none_iff {k:Option KV} {v:Option Value} (h:RelOpt ρ k v):k=none ↔ v=none:=by
  cases k <;> cases v <;> simp_all [RelOpt]
theorem bounds_ok {isS:Bool} {len cap:Nat} {lo hi mx:Option KV} {vl vh vm:Option Value} (hl:RelOpt ρ lo vl) (hh:RelOpt ρ hi vh) (hm:RelOpt ρ mx vm) {m e l:Nat}
    (hno:¬ (mx.isSome=true∧hi=none)) (h1:boundK mx cap cap=some m) (h2:boundK hi len m=some e) (h3:boundK lo 0 e=some l) :
    (Instr.sliceBounds isS len cap vl vh vm).run P w=.ok (l,e,m) w:=by
  have b1:=fun c=>bound_ok (P:=P) (w:=w) (ρ:=ρ) (code:=c) hm h1
  have b2:=fun c=>bound_ok (P:=P) (w:=w) (ρ:=ρ) (code:=c) hh h2
  have b3:=fun c=>bound_ok (P:=P) (w:=w) (ρ:=ρ) (code:=c) hl h3
  have hno':¬ (vm.isSome=true∧vh=none):=fun ⟨e1,e2⟩=>hno ⟨by
    cases mx with
    | none=>have:=hm.none_iff.1 rfl;rw [this] at e1;cases e1
    | some _=>rfl,hh.none_iff.2 e2⟩
  cases vm <;> cases vh <;> cases vl <;> simp only [] at b1 b2 b3 <;> simp_all [Instr.sliceBounds]
theorem bound_up {x:KV} {d d' a b k:Nat} (h:boundK (some x) d a=some k) (hb:k≤b):boundK (some x) d' b=some k:=by
  unfold boundK at h ⊢
  split at h
  · cases ‹some x=none›
  · rename_i heq
    cases heq
    obtain ⟨rfl,_⟩:=natLe_ok h
    show natLe (Int.ofNat k) b=some k
    simp only [natLe,Nat.ble_eq_true_of_le hb]
  · cases h
theorem slice_ok {t : TypeId} {x k:KV} {lo hi mx:Option KV} {v:Value} {vl vh vm:Option Value} (he:sliceK P t x lo hi mx=some k) (hx:RelV ρ x v)
    (hl:RelOpt ρ lo vl) (hh:RelOpt ρ hi vh) (hm:RelOpt ρ mx vm) :
    ∃ u,(Instr.sliceAt t v vl vh vm).run P w=.ok u w∧RelV ρ k u:=by
  unfold sliceK at he
  split at he
  · rename_i l n hu
    simp only [RelV] at hx
    obtain ⟨hn,rfl⟩:=hx
    split at he
    · cases he
    · have hvm:=hm.none_iff.1 rfl
      subst hvm
      split at he
      · cases he
      · rename_i e h2
        split at he
        · cases he
        · rename_i b h3
          split at he
          · rename_i hel
            split at he
            · rename_i hbe
              cases he
              have hb:=bounds_ok (P:=P) (w:=w) (isS:=false) (cap:=l) (mx:=none) (vm:=none) hl hh hm (by simp) (m:=l) rfl h2 h3
              refine ⟨.string ((strOf l n).extract b e),?_,?_⟩
              · simp only [Instr.sliceAt,Instr.slice,Sem.run_bind,run_underlying' hu,Result.andThen_ok]
                rw [strOf_size]
                simp [hb]
              · rw [strOf_extract (Nat.le_of_ble_eq_true hbe) (Nat.le_of_ble_eq_true hel)]
                simp only [RelV]
                exact ⟨subStr_lt n b e,rfl⟩
            · cases he
          · cases he
  · rename_i el b off len cap es ex hu
    simp only [RelV] at hx
    obtain ⟨c,N,cap',hr,rfl,hN,hcap,hex,hlen⟩:=hx
    split at he
    · cases he
    · rename_i s hs
      split at he
      · cases he
      · rename_i hse
        have:=Nat.eq_of_beq_eq_true hse
        subst this
        have main : ∀ m e l,¬ (mx.isSome=true∧hi=none)→boundK mx cap cap=some m→boundK hi len m=some e→boundK lo 0 e=some l →
            (match Nat.ble e m,Nat.ble l e,Nat.ble m cap with
                | true,true,true =>
                  let ex':=exOf mx ex
                  match Nat.beq m l with
                  | false=>some (KV.slice b (Nat.add off (Nat.mul l s)) (Nat.sub e l) (Nat.sub m l) s ex')
                  | true=>match ex' with
                    | true=>some (KV.slice b off (Nat.sub e l) (Nat.sub m l) s true)
                    | false=>match l with
                      | 0=>some (KV.slice b off (Nat.sub e l) (Nat.sub m l) s ex')
                      | _+1=>some .eslice
                | _,_,_=>none)=some k → ∃ u,(Instr.sliceAt t (.slice (some ⟨c,off,none⟩) len cap') vl vh vm).run P w=.ok u w∧RelV ρ k u:=by
          intro m e l hno h1 h2 h3 hk
          split at hk
          · rename_i hem hle hmc
            have hem:=Nat.le_of_ble_eq_true hem
            have hle:=Nat.le_of_ble_eq_true hle
            have hmc:=Nat.le_of_ble_eq_true hmc
            have hb : ∃ m',(Instr.sliceBounds true len cap' vl vh vm).run P w=.ok (l,e,m') w∧m≤m'∧m'≤cap'∧(exOf mx ex=true→m'=m):=by
              cases mx with
              | some mk =>
                have h1':boundK (some mk) cap' cap'=some m:=bound_up h1 (by omega)
                exact ⟨m,bounds_ok (P:=P) (w:=w) hl hh hm hno h1' h2 h3,Nat.le_refl _,by omega,fun _=>rfl⟩
              | none =>
                have hmm:m=cap:=by simp [boundK] at h1;exact h1.symm
                subst hmm
                have h2':boundK hi len cap'=some e:=by
                  cases hi with
                  | none=>exact h2
                  | some q=>exact bound_up h2 (by omega)
                exact ⟨cap',bounds_ok (P:=P) (w:=w) hl hh hm hno rfl h2' h3,by omega,Nat.le_refl _,fun h=>hex h⟩
            obtain ⟨m',hrun,hmm,hmc',hmex⟩:=hb
            have hrun':(Instr.sliceAt t (.slice (some ⟨c,off,none⟩) len cap') vl vh vm).run P w=.ok (.slice (some (if m'=l then ⟨c,off,none⟩ else ⟨c,off+l*s,none⟩)) (e - l) (m' - l)) w:=by
              simp only [Instr.sliceAt,Instr.slice,Sem.run_bind,run_underlying' hu,Result.andThen_ok,hrun,run_sizeOf' hs]
              split <;> simp [addr_add]
            have hfits:(off+l*s)+(m' - l)*s≤N:=by
              have:l*s+(m' - l)*s=m'*s:=by rw [← Nat.add_mul];congr 1;omega
              have h4:m'*s≤cap'*s:=Nat.mul_le_mul_right _ hmc'
              omega
            simp only at hk
            split at hk
            · rename_i hml
              have hml':m≠l:=fun e=>by subst e;simp at hml
              cases hk
              refine ⟨_,hrun',?_⟩
              have:m'≠l:=by omega
              rw [if_neg this]
              simp only [RelV]
              exact ⟨c,N,m' - l,hr,rfl,hfits,by show m - l≤m' - l;omega,fun h=>by rw [hmex h];rfl,by show e - l≤m - l;omega⟩
            · rename_i hml
              have:=Nat.eq_of_beq_eq_true hml
              subst this
              split at hk
              · rename_i hext
                cases hk
                have:=hmex hext
                subst this
                refine ⟨_,hrun',?_⟩
                rw [if_pos rfl]
                simp only [RelV]
                exact ⟨c,N,m' - m',hr,rfl,by simp;omega,Nat.le_refl _,fun _=>rfl,by show e - m'≤m' - m';omega⟩
              · rename_i hext
                split at hk
                · cases hk
                  refine ⟨_,hrun',?_⟩
                  simp only [RelV]
                  have h0:(if m'=0 then (⟨c,off,none⟩:Addr) else ⟨c,off+0*s,none⟩)=⟨c,off,none⟩:=by split <;> simp
                  rw [h0]
                  have hext':exOf mx ex=false:=hext
                  refine ⟨c,N,m' - 0,hr,rfl,by simp at hfits ⊢;omega,by show 0 - 0≤m' - 0;omega,fun h => ?_,by show e - 0≤0 - 0;omega⟩
                  rw [hext'] at h;cases h
                · cases hk
                  refine ⟨_,hrun',?_⟩
                  simp only [RelV]
                  have he0 : ∀ q,e≤q→e - q=0:=fun q hq=>by omega
                  rw [he0 _ (by omega)]
                  exact ⟨_,_,rfl⟩
          · cases hk
        split at he
        · cases he
        · rename_i hno
          split at he
          · cases he
          · rename_i m h1
            split at he
            · cases he
            · rename_i e h2
              split at he
              · cases he
              · rename_i l h3
                refine main m e l (fun ⟨e1,e2⟩ => ?_) h1 h2 h3 he
                subst e2
                cases mx with
                | none=>cases e1
                | some q=>exact hno q rfl rfl
  · rename_i el hu
    simp only [RelV] at hx
    subst hx
    split at he
    · cases he
    · rename_i s hs
      split at he
      · cases he
      · rename_i hno
        split at he
        · cases he
        · rename_i m h1
          split at he
          · cases he
          · rename_i e h2
            split at he
            · cases he
            · rename_i l h3
              cases he
              have hno':¬ (mx.isSome=true∧hi=none):=fun ⟨e1,e2⟩=>by
                subst e2
                cases mx with
                | none=>cases e1
                | some q=>exact hno q rfl rfl
              have hb:=bounds_ok (P:=P) (w:=w) (isS:=true) (len:=0) (cap:=0) hl hh hm hno' h1 h2 h3
              have hm0:m=0:=by
                have:=bound_ok (P:=P) (w:=w) (ρ:=ρ) (code:=.index) hm h1
                cases vm <;> simp only at this <;> omega
              subst hm0
              have he0:e=0:=by
                have:=bound_ok (P:=P) (w:=w) (ρ:=ρ) (code:=.index) hh h2
                cases vh <;> simp only at this <;> omega
              subst he0
              have hl0:l=0:=by
                have:=bound_ok (P:=P) (w:=w) (ρ:=ρ) (code:=.index) hl h3
                cases vl <;> simp only at this <;> omega
              subst hl0
              refine ⟨.slice none 0 0,?_,by simp only [RelV]⟩
              simp [Instr.sliceAt,Instr.slice,run_underlying' hu,hb,run_sizeOf' hs]
  · rename_i el hu
    simp only [RelV] at hx
    obtain ⟨a,cap',rfl⟩:=hx
    split at he
    · cases he
    · rename_i s hs
      split at he
      · cases he
        have e1:=hl.none_iff.1 rfl
        have e2:=hh.none_iff.1 rfl
        have e3:=hm.none_iff.1 rfl
        subst e1;subst e2;subst e3
        refine ⟨.slice (some (if cap'=0 then a else a.add 0)) 0 cap',?_,by simp only [RelV];exact ⟨_,_,rfl⟩⟩
        simp only [Instr.sliceAt,Instr.slice,Instr.sliceBounds,Sem.run_bind,run_underlying' hu,Result.andThen_ok,Sem.run_pure,run_sizeOf' hs]
        split <;> simp
      · cases he
  · cases he
end
end Go.Ev
namespace Go.Ev
def bytesOfCells:List KV→Option KV
  | []=>some (.str 0 0)
  | .int .u8 (.ofNat n) :: r=>match Nat.blt n 256 with
    | true=>match bytesOfCells r with
      | some (.str l m)=>some (.str (Nat.succ l) (Nat.add n (Nat.mul 256 m)))
      | _=>none
    | false=>none
  | _=>none
section
variable (P:Program)
noncomputable def convK (h:Heap) (src dst:TypeId) (x:KV):Option KV :=
  match P.underlying src,P.underlying dst,x with
  | some _,some (.int k),.int _ n=>some (.int k (wrapK k n))
  | some _,some .string,.str l n=>some (.str l n)
  | some _,some .string,.int _ (.ofNat n)=>match Nat.blt n 128 with | true=>some (.str 1 n) | false=>none
  | some (.slice e),some .string,x=>match P.underlying e with
    | some (.int .u8)=>match x with
      | .nilslice=>some (.str 0 0)
      | .eslice=>some (.str 0 0)
      | .slice b off len _ _ _=>match h.get b with
        | some (.cells _ c _)=>match getCells c off len with
          | some l=>bytesOfCells l
          | none=>none
        | _=>none
      | _=>none
    | _=>none
  | _,_,_=>none
variable {P}
variable {w0:World} {K:Nat→Prop} {ρ:Ren} {h:Heap} {nx:Nat} {w:World}
theorem bytesOfCells_ok : ∀ {l:List KV} {k:KV} {vs:List Value},bytesOfCells l=some k→RelVs ρ l vs →
    ∃ ns:List Int,vs=ns.map (fun n=>.int .u8 n) ∧ ∃ n,k=.str l.length n∧n<256 ^ l.length∧bytesL l.length n=ns.map fun i=>UInt8.ofNat i.toNat
  | [],k,vs,h,hr=>by
    simp [bytesOfCells] at h;subst h
    simp only [RelVs] at hr;subst hr
    exact ⟨[],rfl,0,rfl,by simp,rfl⟩
  | a :: r, k,vs,h,hr=>by
    unfold bytesOfCells at h
    split at h
    · rename_i heq;cases heq
    · rename_i n r' heq
      cases heq
      split at h
      · rename_i hn
        have hn:n<256:=by simpa [Nat.blt_eq] using hn
        split at h
        · rename_i l m hrec
          cases h
          simp only [RelVs,RelV] at hr
          obtain ⟨x,s,rfl,rfl,h3⟩:=hr
          obtain ⟨ns,rfl,q,hq,hlt,hb⟩:=bytesOfCells_ok hrec h3
          cases hq
          refine ⟨Int.ofNat n :: ns,by simp,n+256*m,rfl,?_,?_⟩
          · simp only [List.length_cons,Nat.pow_succ];omega
          · simp only [List.length_cons,bytesL]
            have h1:(n+256*m) % 256=n:=by omega
            have h2:(n+256*m) / 256=m:=by omega
            rw [h1,h2,hb]
            simp
        · cases h
      · cases h
    · cases h
theorem foldl_push (f:Int→UInt8) : ∀ (ns:List Int) (s:ByteArray),(ns.foldl (fun r n=>r.push (f n)) s).data.toList=s.data.toList ++ ns.map f
  | [],s=>by simp
  | n :: ns,s=>by
    rw [List.foldl_cons,foldl_push f ns]
    simp [ByteArray.push]
theorem conv_ok (r:Rel w0 K ρ h nx w) {src dst:TypeId} {x k:KV} {v:Value} (he:convK P h src dst x=some k) (hx:RelV ρ x v) :
    ∃ u,(convert src dst v).run P w=.ok u w∧RelV ρ k u:=by
  unfold convK at he
  split at he
  · rename_i d ki kk n hs hd
    cases he
    simp only [RelV] at hx ⊢
    subst hx
    refine ⟨_,?_,rfl⟩
    rw [wrapK_eq]
    simp only [convert,Sem.run_bind,run_underlying' hs,run_underlying' hd,Result.andThen_ok]
    rfl
  · rename_i d l n hs hd
    cases he
    simp only [RelV] at hx ⊢
    obtain ⟨hn,rfl⟩:=hx
    refine ⟨_,?_,hn,rfl⟩
    simp only [convert,Sem.run_bind,run_underlying' hs,run_underlying' hd,Result.andThen_ok]
    rfl
  · rename_i d ki n hs hd
    split at he
    · rename_i hn
      have hn:n<128:=by simpa [Nat.blt_eq] using hn
      cases he
      simp only [RelV] at hx ⊢
      subst hx
      refine ⟨.string (strOf 1 n),?_,by omega,rfl⟩
      simp only [convert,Sem.run_bind,run_underlying' hs,run_underlying' hd,Result.andThen_ok]
      have h1:Utf8.valid (Int.ofNat n)=true:=by
        have:(Int.ofNat n)<0xD800:=by simp;omega
        simp [Utf8.valid];omega
      have h2:n<0x80:=by omega
      have h3:n % 256=n:=by omega
      show Result.ok (Value.string (Utf8.encode (Int.ofNat n))) w=_
      have:Utf8.encode (Int.ofNat n)=strOf 1 n:=by
        unfold Utf8.encode
        simp only [h1,if_true]
        show (if n<0x80 then _ else _)=_
        rw [if_pos h2]
        simp only [strOf,bytesL,h3]
        rfl
      rw [this]
    · cases he
  · rename_i e x' hs hd hns hni
    split at he
    · rename_i hu
      have hrun : ∀ u,(Conv.bytesToString v).run P w=.ok u w→(∀ (n:IntKind × Int),v≠.int n.1 n.2)→(∀ s,v≠.string s)→(convert src dst v).run P w=.ok u w:=by
        intro u hb h1 h2
        simp only [convert,Sem.run_bind,run_underlying' hs,run_underlying' hd,Result.andThen_ok]
        cases v <;> first
          | exact absurd rfl (h1 ⟨_,_⟩)
          | exact absurd rfl (h2 _)
          | (simp only [Sem.run_bind,run_underlying' hu,Result.andThen_ok];exact hb)
      split at he
      · cases he
        simp only [RelV] at hx ⊢
        subst hx
        exact ⟨.string .empty,hrun _ rfl (by simp) (by simp),by simp,by rfl⟩
      · cases he
        simp only [RelV] at hx ⊢
        obtain ⟨a,cap',rfl⟩:=hx
        refine ⟨.string .empty,hrun _ ?_ (by simp) (by simp),by simp,by rfl⟩
        simp [Conv.bytesToString,loadCells,loadCellsFrom]
      · rename_i b off len cap es ex
        simp only [RelV] at hx
        obtain ⟨c,N,cap',hr,rfl,_⟩:=hx
        split at he
        · rename_i nn cc ro hb
          split at he
          · rename_i l hl
            obtain ⟨hlen,_⟩:=getCells_get len cc off l hl
            obtain ⟨vs,h1,h2⟩:=cells_read (P:=P) r hb hr hl
            obtain ⟨ns,rfl,n,rfl,h4,h5⟩:=bytesOfCells_ok he h2
            refine ⟨.string (strOf l.length n),hrun _ ?_ (by simp) (by simp),by simp only [RelV];exact ⟨h4,trivial⟩⟩
            have hb:=run_bytesToString (P:=P) w ⟨c,off,none⟩ len cap' ns h1
            rw [hb]
            congr 2
            apply ByteArray.ext
            apply Array.ext'
            rw [foldl_push]
            simp [strOf,h5]
          · cases he
        · cases he
      · cases he
    · cases he
  · cases he
theorem min_ok {a b k:KV} {va vb:Value} (he:min2K a b=some k) (ha:RelV ρ a va) (hb:RelV ρ b vb) : ∃ u,(Builtin.min2 va vb).run P w=.ok u w∧RelV ρ k u:=by
  unfold min2K at he
  split at he
  · cases he
    simp only [RelV] at ha hb
    subst ha;subst hb
    refine ⟨_,rfl,?_⟩
    simp only [RelV,ltI_eq]
    congr 1
    rename_i m _ n
    by_cases hlt:n<m <;> simp [hlt]
  · cases he
theorem max_ok {a b k:KV} {va vb:Value} (he:max2K a b=some k) (ha:RelV ρ a va) (hb:RelV ρ b vb) : ∃ u,(Builtin.max2 va vb).run P w=.ok u w∧RelV ρ k u:=by
  unfold max2K at he
  split at he
  · cases he
    simp only [RelV] at ha hb
    subst ha;subst hb
    refine ⟨_,rfl,?_⟩
    simp only [RelV,ltI_eq]
    congr 1
    rename_i m _ n
    by_cases hlt:m<n <;> simp [hlt]
  · cases he
theorem fold_ok {f:KV→KV→Option KV} {g:Value→Value→Sem Value} (hf : ∀ {a b k:KV} {va vb:Value},f a b=some k→RelV ρ a va→RelV ρ b vb → ∃ u,(g va vb).run P w=.ok u w∧RelV ρ k u) :
    ∀ {l:List KV} {a k:KV} {va:Value} {vs:List Value},foldK f a l=some k→RelV ρ a va→RelVs ρ l vs → ∃ u,(vs.foldlM g va).run P w=.ok u w∧RelV ρ k u
  | [],a,k,va,vs,he,ha,hl=>by
    simp [foldK] at he;subst he
    simp only [RelVs] at hl;subst hl
    exact ⟨va,rfl,ha⟩
  | b :: r,a,k,va,vs,he,ha,hl=>by
    simp only [foldK] at he
    simp only [RelVs] at hl
    obtain ⟨x,s,rfl,h2,h3⟩:=hl
    split at he
    · rename_i c hc
      obtain ⟨u,h4,h5⟩:=hf hc ha h2
      obtain ⟨u',h6,h7⟩:=fold_ok hf he h5 h3
      exact ⟨u',by rw [List.foldlM_cons];simp [h4,h6],h7⟩
    · cases he
end
end Go.Ev
namespace Go.Ev
def keyEq:KV→KV→Option Bool
  | .int k a,.int k' b=>match kindEq k k' with | true=>some (eqI a b) | false=>none
  | .str l n,.str m o=>some (strEq l n m o)
  | _,_=>none
def findK (k:KV):List (KV × KV)→Option (Option KV)
  | []=>some none
  | (a,v) :: r=>match keyEq k a with
    | some true=>some (some v)
    | some false=>findK k r
    | none=>none
def putK (k v:KV):List (KV × KV)→Option (List (KV × KV))
  | []=>some [(k,v)]
  | (a,w) :: r=>match keyEq k a with
    | some true=>some ((a,v) :: r)
    | some false=>match putK k v r with
      | some l=>some ((a,w) :: l)
      | none=>none
    | none=>none
def keyFits (d:TypeDesc) (k:KV):Bool :=
  match d,k with
  | .int _,.int _ _=>true
  | .string,.str _ _=>true
  | _,_=>false
section
variable (P:Program)
def keyTyOk (t:TypeId) (k:KV):Bool :=
  match P.underlying t with
  | some d=>keyFits d k
  | none=>false
def mapTys (t:TypeId):Option (TypeId × TypeId) :=
  match P.underlying t with
  | some (.map k e)=>some (k,e)
  | _=>none
noncomputable def lookupK (h:Heap) (t:TypeId) (m k:KV) (ok:Bool):Option KV :=
  match mapTys P t with
  | none=>none
  | some (kt,et)=>match keyTyOk P kt k with
    | false=>none
    | true=>match m with
      | .nilmap=>match zeroOf P et with
        | some z=>some (match ok with | true=>.tuple [z,.bool false] | false=>z)
        | none=>none
      | .map b=>match h.get b with
        | some (.map es)=>match findK k es with
          | some (some v)=>some (match ok with | true=>.tuple [v,.bool true] | false=>v)
          | some none=>match zeroOf P et with
            | some z=>some (match ok with | true=>.tuple [z,.bool false] | false=>z)
            | none=>none
          | none=>none
        | _=>none
      | _=>none
noncomputable def mapUpdateK (h:Heap) (t:TypeId) (m k v:KV):Option Heap :=
  match mapTys P t with
  | none=>none
  | some (kt,_)=>match keyTyOk P kt k with
    | false=>none
    | true=>match m with
      | .map b=>match h.get b with
        | some (.map es)=>match putK k v es with
          | some es'=>some (h.put b (some (.map es')))
          | none=>none
        | _=>none
      | _=>none
variable {P}
variable {w0:World} {K:Nat→Prop} {ρ:Ren} {h:Heap} {nx:Nat} {w:World}
theorem keyEq_shape {a b:KV} : keyEq a b=none ↔ ¬ (shapeK a=shapeK b∧shapeK a≠none):=by
  cases a <;> cases b <;> simp [keyEq,shapeK,kindEq]
  rename_i k _ k' _
  by_cases h:k=k' <;> simp [h]
theorem keyEq_iff {a b:KV} {q:Bool} {va vb:Value} (h:keyEq a b=some q) (ha:RelV ρ a va) (hb:RelV ρ b vb) :
    (q=true ↔ a=b) ∧ ∀ d,keyFits d a=true→Instr.sameNow d va vb=some q:=by
  unfold keyEq at h
  split at h
  · rename_i k x k' y
    split at h
    · rename_i hk
      have:k=k':=by simpa [kindEq] using hk
      subst this
      cases h
      simp only [RelV] at ha hb
      subst ha;subst hb
      refine ⟨?_,fun d hd => ?_⟩
      · rw [eqI_iff];simp
      · cases d <;> simp [keyFits] at hd
        simp [Instr.sameNow,eqI_eq]
    · cases h
  · rename_i l n m o
    cases h
    simp only [RelV] at ha hb
    obtain ⟨h1,rfl⟩:=ha
    obtain ⟨h2,rfl⟩:=hb
    refine ⟨?_,fun d hd => ?_⟩
    · rw [strEq_iff h1 h2]
      constructor
      · intro he
        have hlm:l=m:=by have:=congrArg List.length he;simpa [bytesL_length] using this
        subst hlm
        rw [bytesL_inj l n o h1 h2 he]
      · intro he;cases he;rfl
    · cases d <;> simp [keyFits] at hd
      simp [Instr.sameNow,strEq_beq h1 h2]
  · cases h
theorem findNow_ok {d:TypeDesc} {kv:Value} : ∀ (E:List MapEntry) (i:Nat),(∀ e ∈ E,Instr.sameNow d kv e.key≠none) →
    (Instr.findNow d kv E i=some none ∧ ∀ e ∈ E,Instr.sameNow d kv e.key=some false) ∨
    (∃ j e,j<E.length∧E[j]?=some e∧Instr.sameNow d kv e.key=some true∧Instr.findNow d kv E i=some (some (i+j,e.val)))
  | [],i,_=>.inl ⟨rfl,by simp⟩
  | e :: r,i,hall=>by
    have h0:=hall e (by simp)
    cases hs:Instr.sameNow d kv e.key with
    | none=>exact absurd hs h0
    | some q =>
      cases q
      · rcases findNow_ok r (i+1) (fun x hx=>hall x (by simp [hx])) with ⟨h1,h2⟩ | ⟨j,e',h1,h2,h3,h4⟩
        · refine .inl ⟨by simp [Instr.findNow,hs,h1],fun x hx => ?_⟩
          rcases List.mem_cons.1 hx with rfl | hx
          · exact hs
          · exact h2 x hx
        · exact .inr ⟨j+1,e',by simp;omega,by simpa using h2,h3,by simp [Instr.findNow,hs,h4];omega⟩
      · exact .inr ⟨0,e,by simp,rfl,hs,by simp [Instr.findNow,hs]⟩
theorem RelE.mem {ρ:Ren} : ∀ {es:List (KV × KV)} {l:List MapEntry},RelE ρ es l → ∀ e ∈ l,∃ x ∈ es,RelV ρ x.1 e.key∧RelV ρ x.2 e.val
  | [],_,h,e,he=>by simp only [RelE] at h;subst h;simp at he
  | (k,v) :: r,_,h,e,he=>by
    simp only [RelE] at h
    obtain ⟨e',s,rfl,h2,h3,h4⟩:=h
    rcases List.mem_cons.1 he with rfl | he
    · exact ⟨(k,v),by simp,h2,h3⟩
    · obtain ⟨x,hx,h5⟩:=h4.mem e he
      exact ⟨x,by simp [hx],h5⟩
theorem RelE.mem' {ρ:Ren} : ∀ {es:List (KV × KV)} {l:List MapEntry},RelE ρ es l → ∀ x ∈ es,∃ e ∈ l,RelV ρ x.1 e.key∧RelV ρ x.2 e.val
  | [],_,h,x,hx=>by simp at hx
  | (k,v) :: r,_,h,x,hx=>by
    simp only [RelE] at h
    obtain ⟨e',s,rfl,h2,h3,h4⟩:=h
    rcases List.mem_cons.1 hx with rfl | hx
    · exact ⟨e',by simp,h2,h3⟩
    · obtain ⟨e,he,h5⟩:=h4.mem' x hx
      exact ⟨e,by simp [he],h5⟩
theorem findK_spec {k:KV} : ∀ {es:List (KV × KV)} {r:Option KV},findK k es=some r →
    (es≠[] → ∃ x ∈ es,keyEq k x.1≠none) ∧
    match r with
    | none => ∀ x ∈ es,keyEq k x.1=some false
    | some v => ∃ x ∈ es,keyEq k x.1=some true∧x.2=v
  | [],r,h=>by simp [findK] at h;subst h;simp
  | (a, v) :: t,r,h=>by
    simp only [findK] at h
    split at h
    · rename_i hk
      cases h
      exact ⟨fun _=>⟨(a,v),by simp,by simp [hk]⟩,(a,v),by simp,hk,rfl⟩
    · rename_i hk
      obtain ⟨_,h2⟩:=findK_spec h
      refine ⟨fun _=>⟨(a,v),by simp,by simp [hk]⟩,?_⟩
      cases r with
      | none =>
        intro x hx
        rcases List.mem_cons.1 hx with rfl | hx
        · exact hk
        · exact h2 x hx
      | some u =>
        obtain ⟨x,hx,h3⟩:=h2
        exact ⟨x,by simp [hx],h3⟩
    · cases h
theorem keys_some {k:KV} {es:List (KV × KV)} (hk:KeysOk es) (h:es≠[] → ∃ x ∈ es,keyEq k x.1≠none) : ∀ x ∈ es,keyEq k x.1≠none:=by
  intro x hx
  obtain ⟨_,s,hs⟩:=hk
  obtain ⟨y,hy,hne⟩:=h (by intro e;subst e;simp at hx)
  have h1:shapeK k=shapeK y.1∧shapeK k≠none:=by
    have:=(not_congr (keyEq_shape (a:=k) (b:=y.1))).1 hne
    simpa using this
  intro hn
  have h2:=keyEq_shape.1 hn
  exact h2 ⟨by rw [h1.1,hs y hy,hs x hx],h1.2⟩
theorem find_ok {es:List (KV × KV)} {l:List MapEntry} {ents:Array MapEntry} {k:KV} {kv:Value} {kt:TypeId} {d:TypeDesc} (hu:P.underlying kt=some d) (hd:keyFits d k=true)
    (hp:l.Perm ents.toList) (hr:RelE ρ es l) (hk:RelV ρ k kv) (hsome : ∀ x ∈ es,keyEq k x.1≠none) :
    ((Instr.findKey kt kv ents.toList).run P w=.ok none w ∧ ∀ x ∈ es,keyEq k x.1=some false) ∨
    (∃ j e,ents[j]?=some e∧(Instr.findKey kt kv ents.toList).run P w=.ok (some (j,e.val)) w ∧
      ∃ x ∈ es,keyEq k x.1=some true∧RelV ρ x.1 e.key∧RelV ρ x.2 e.val):=by
  have hall : ∀ e ∈ ents.toList,∃ x ∈ es,RelV ρ x.1 e.key∧RelV ρ x.2 e.val∧Instr.sameNow d kv e.key=keyEq k x.1:=fun e he=>by
    obtain ⟨x,hx,h1,h2⟩:=hr.mem e (hp.mem_iff.2 he)
    refine ⟨x,hx,h1,h2,?_⟩
    cases hq:keyEq k x.1 with
    | none=>exact absurd hq (hsome x hx)
    | some q=>exact (keyEq_iff hq hk h1).2 d hd
  have hne : ∀ e ∈ ents.toList,Instr.sameNow d kv e.key≠none:=fun e he=>by
    obtain ⟨x,hx,_,_,h3⟩:=hall e he
    rw [h3];exact hsome x hx
  rcases findNow_ok ents.toList 0 hne with ⟨h1,h2⟩ | ⟨j,e,h1,h2,h3,h4⟩
  · refine .inl ⟨by simp [Instr.findKey,run_underlying' hu,h1],fun x hx => ?_⟩
    obtain ⟨e,he,g1,g2⟩:=hr.mem' x hx
    have he':=hp.mem_iff.1 he
    have:=h2 e he'
    cases hq:keyEq k x.1 with
    | none=>exact absurd hq (hsome x hx)
    | some q=>rw [(keyEq_iff hq hk g1).2 d hd] at this;exact this
  · refine .inr ⟨j,e,by simpa using h2,by simp [Instr.findKey,run_underlying' hu,h4],?_⟩
    obtain ⟨x,hx,g1,g2,g3⟩:=hall e (List.mem_of_getElem? h2)
    exact ⟨x,hx,by rw [← g3];exact h3,g1,g2⟩
theorem keyTy_ok {kt:TypeId} {k:KV} (h:keyTyOk P kt k=true) : ∃ d,P.underlying kt=some d∧keyFits d k=true:=by
  unfold keyTyOk at h
  split at h
  · exact ⟨_,‹_›,h⟩
  · cases h
theorem checkKey_succ {kt:TypeId} {k:KV} {kv:Value} {b:Bool} (n:Nat) (h:keyTyOk P kt k=true) (hk:RelV ρ k kv) (w:World):(Instr.checkKey b (n+1) kt kv).run P w=.ok () w:=by
  obtain ⟨d,hu,hd⟩:=keyTy_ok h
  cases d <;> cases k <;> simp [keyFits] at hd <;> simp only [RelV] at hk
  · subst hk;simp [Instr.checkKey,run_underlying' hu]
  · obtain ⟨_,rfl⟩:=hk;simp [Instr.checkKey,run_underlying' hu]
theorem checkKey_ok {kt:TypeId} {k:KV} {kv:Value} {b:Bool} (h:keyTyOk P kt k=true) (hk:RelV ρ k kv) (w:World):(Instr.checkKey b 10000 kt kv).run P w=.ok () w :=
  checkKey_succ 9999 h hk w
theorem nodup_map_inj {α β:Type} (f:α→β) : ∀ {l:List α},(l.map f).Nodup → ∀ {x y:α},x ∈ l→y ∈ l→f x=f y→x=y
  | [],_,x,_,hx,_,_=>by simp at hx
  | a :: r,hn,x,y,hx,hy,hxy=>by
    simp only [List.map_cons,List.nodup_cons,List.mem_map,not_exists,not_and] at hn
    rcases List.mem_cons.1 hx with e1 | h1 <;> rcases List.mem_cons.1 hy with e2 | h2
    · rw [e1,e2]
    · subst e1;exact absurd hxy.symm (hn.1 y h2)
    · subst e2;exact absurd hxy (hn.1 x h1)
    · exact nodup_map_inj f hn.2 h1 h2 hxy
theorem mapTys_ok {t kt et:TypeId} (h:mapTys P t=some (kt,et)):P.underlying t=some (.map kt et):=by
  unfold mapTys at h
  split at h
  · cases h;assumption
  · cases h
theorem lookup_ok (r:Rel w0 K ρ h nx w) {t:TypeId} {m k v:KV} {ok:Bool} {vm vk:Value} (he:lookupK P h t m k ok=some v) (hm:RelV ρ m vm) (hk:RelV ρ k vk) :
    ∃ u,(Instr.lookup t vm vk ok).run P w=.ok u w∧RelV ρ v u:=by
  unfold lookupK at he
  split at he
  · cases he
  · rename_i kt et hty
    have hu:=mapTys_ok hty
    split at he
    · cases he
    · rename_i hkt
      obtain ⟨d,hud,hd⟩:=keyTy_ok hkt
      split at he
      · simp only [RelV] at hm
        subst hm
        split at he
        · rename_i z hz
          cases he
          obtain ⟨vz,h1,h2⟩:=run_zeroOf (ρ:=ρ) hz w
          refine ⟨if ok then .tuple #[vz,.bool false] else vz,?_,?_⟩
          · simp [Instr.lookup,run_underlying' hu,checkKey_ok hkt hk,Instr.findKey,run_underlying' hud,Instr.findNow,h1]
          · cases ok
            · exact h2
            · simp only [RelV,RelVs];exact ⟨_,rfl,_,_,rfl,h2,_,_,rfl,rfl,rfl⟩
        · cases he
      · rename_i b
        simp only [RelV] at hm
        obtain ⟨c,N,hr,rfl⟩:=hm
        split at he
        · rename_i es hb
          obtain ⟨o',h1,⟨ents,clock,rfl,hkeys,l,hp,hrel⟩,_⟩:=r.img b _ c N hb hr
          have hfind : ∀ q,findK k es=some q→_:=fun q hq=>find_ok (P:=P) (w:=w) hud hd hp hrel hk (keys_some hkeys (findK_spec hq).1)
          have hget:(getObj c).run P w=.ok (.map ents clock) w:=by simp [getObj,Sem.run,h1]
          split at he
          · rename_i v' hq
            cases he
            obtain ⟨x,hx,hx1,hx2⟩:=(findK_spec hq).2
            rcases hfind _ hq with ⟨_,g2⟩ | ⟨j,e,g1,g2,y,hy,hy1,hy2,hy3⟩
            · rw [g2 x hx] at hx1;cases hx1
            ·
              have hxy:x.1=y.1:=by
                obtain ⟨ex,_,ex1,_⟩:=hrel.mem' x hx
                have e1:=((keyEq_iff hx1 hk ex1).1).1 rfl
                have e2:=((keyEq_iff hy1 hk hy2).1).1 rfl
                rw [← e1,← e2]
              have hxy':x=y:=by
                exact nodup_map_inj _ hkeys.1 hx hy hxy
              subst hxy'
              refine ⟨if ok then .tuple #[e.val,.bool true] else e.val,?_,?_⟩
              · simp [Instr.lookup,run_underlying' hu,hget,checkKey_ok hkt hk,g2]
              · subst hx2
                cases ok
                · exact hy3
                · simp only [RelV,RelVs];exact ⟨_,rfl,_,_,rfl,hy3,_,_,rfl,rfl,rfl⟩
          · rename_i hq
            split at he
            · rename_i z hz
              cases he
              obtain ⟨vz,h3,h4⟩:=run_zeroOf (ρ:=ρ) hz w
              rcases hfind _ hq with ⟨g1,_⟩ | ⟨j,e,g1,g2,y,hy,hy1,_⟩
              · refine ⟨if ok then .tuple #[vz,.bool false] else vz,?_,?_⟩
                · simp [Instr.lookup,run_underlying' hu,hget,checkKey_ok hkt hk,g1,h3]
                · cases ok
                  · exact h4
                  · simp only [RelV,RelVs];exact ⟨_,rfl,_,_,rfl,h4,_,_,rfl,rfl,rfl⟩
              · have:=(findK_spec hq).2 y hy
                rw [this] at hy1;cases hy1
            · cases he
          · cases he
        · cases he
      · cases he
end
end Go.Ev
namespace Go.Ev
section
variable {P:Program}
variable {w0:World} {K:Nat→Prop} {ρ:Ren} {h:Heap} {nx:Nat} {w:World}
theorem RelE.split {ρ:Ren} : ∀ {es:List (KV × KV)} {l:List MapEntry},RelE ρ es l → ∀ e ∈ l,∃ es1 x es2 l1 l2,es=es1 ++ x :: es2∧l=l1 ++ e :: l2∧RelE ρ es1 l1∧RelE ρ es2 l2∧RelV ρ x.1 e.key∧RelV ρ x.2 e.val
  | [],_,h,e,he=>by simp only [RelE] at h;subst h;simp at he
  | (k,v) :: r,_,h,e,he=>by
    simp only [RelE] at h
    obtain ⟨e',s,rfl,h2,h3,h4⟩:=h
    rcases List.mem_cons.1 he with e1 | he
    · subst e1
      exact ⟨[],(k,v),r,[],s,rfl,rfl,by simp [RelE],h4,h2,h3⟩
    · obtain ⟨es1,x,es2,l1,l2,rfl,rfl,g1,g2,g3,g4⟩:=h4.split e he
      exact ⟨(k,v) :: es1,x,es2,e' :: l1,l2,rfl,rfl,by simp only [RelE];exact ⟨e',l1,rfl,h2,h3,g1⟩,g2,g3,g4⟩
theorem RelE.append {ρ:Ren} : ∀ {es es':List (KV × KV)} {l l':List MapEntry},RelE ρ es l→RelE ρ es' l'→RelE ρ (es ++ es') (l ++ l')
  | [],_,_,_,h,h'=>by simp only [RelE] at h;subst h;simpa using h'
  | (k,v) :: r,_,_,_,h,h'=>by
    simp only [RelE] at h
    obtain ⟨e',s,rfl,h2,h3,h4⟩:=h
    simp only [List.cons_append,RelE]
    exact ⟨e',_,rfl,h2,h3,h4.append h'⟩
theorem keyEq_self_false {k a:KV} {q:Bool} (h:keyEq k a=some q) (hne:k≠a) {va vb:Value} (ha:RelV ρ k va) (hb:RelV ρ a vb):q=false:=by
  cases q
  · rfl
  · exact absurd ((keyEq_iff h ha hb).1.1 rfl) hne
theorem putK_new {k v:KV} : ∀ {es es':List (KV × KV)},putK k v es=some es'→(∀ x ∈ es,keyEq k x.1=some false)→es'=es ++ [(k,v)]
  | [],es',h,_=>by simp [putK] at h;simp [← h]
  | (a,u) :: r,es',h,hall=>by
    have h0:=hall (a,u) (by simp)
    simp only at h0
    simp only [putK,h0] at h
    split at h
    · rename_i l hl
      cases h
      rw [putK_new hl (fun x hx=>hall x (by simp [hx]))]
      rfl
    · cases h
theorem putK_old {k v:KV} {x:KV × KV} {es2:List (KV × KV)} : ∀ {es1 es':List (KV × KV)},putK k v (es1 ++ x :: es2)=some es'→keyEq k x.1=some true→(∀ y ∈ es1,keyEq k y.1=some false)→es'=es1 ++ (x.1,v) :: es2
  | [],es',h,hk,_=>by
    obtain ⟨a,u⟩:=x
    simp only [List.nil_append,putK] at h
    simp only at hk
    rw [hk] at h
    simpa using h.symm
  | (a,u) :: r,es',h,hk,hall=>by
    have h0:=hall (a,u) (by simp)
    simp only at h0
    simp only [List.cons_append,putK,h0] at h
    split at h
    · rename_i l hl
      cases h
      rw [putK_old hl hk (fun x hx=>hall x (by simp [hx]))]
      rfl
    · cases h
theorem putK_some {k v:KV} : ∀ {es es':List (KV × KV)},putK k v es=some es'→es≠[] → ∃ x ∈ es,keyEq k x.1≠none
  | [],_,_,h=>absurd rfl h
  | (a,u) :: r,es',h,_=>by
    refine ⟨(a,u),by simp,fun hn => ?_⟩
    simp only at hn
    simp [putK,hn] at h
theorem modify_split {α:Type} (a:Array α) (j:Nat) (e:α) (f:α→α) (h:a[j]?=some e) : ∃ l1 l2,a.toList=l1 ++ e :: l2∧(a.modify j f).toList=l1 ++ f e :: l2:=by
  have hj:j<a.toList.length:=by simpa using (Array.getElem?_eq_some_iff.1 h).1
  have he:a.toList[j]=e:=by have:=(Array.getElem?_eq_some_iff.1 h).2;simpa using this
  refine ⟨a.toList.take j,a.toList.drop (j+1),?_,?_⟩
  · rw [← he];exact (List.take_append_drop j a.toList).symm.trans (by rw [List.drop_eq_getElem_cons hj])
  · apply List.ext_getElem?
    intro i
    have hm:min j a.size=j:=by simp at hj;omega
    by_cases h1:i=j
    · subst h1
      simp only [Array.getElem?_toList,Array.getElem?_modify,if_true,h,Option.map_some]
      rw [List.getElem?_append_right (by simp;omega)]
      simp [hm]
    · simp only [Array.getElem?_toList,Array.getElem?_modify]
      rw [if_neg (fun e=>h1 e.symm)]
      by_cases h2:i<j
      · rw [List.getElem?_append_left (by simp;simp at hj;omega),List.getElem?_take,if_pos h2];simp
      · rw [List.getElem?_append_right (by simp;omega)]
        have:i - (a.toList.take j).length=(i - j - 1)+1:=by simp;omega
        rw [this,List.getElem?_cons_succ,List.getElem?_drop,show j+1+(i - j - 1)=i by omega]
        simp
theorem key_unique {k:KV} {s:Option IntKind} (hs:shapeK k=some s) {va vb:Value} (ha:RelV ρ k va) (hb:RelV ρ k vb):va=vb:=by
  cases k <;> simp [shapeK] at hs <;> simp only [RelV] at ha hb
  · rw [ha,hb]
  · rw [ha.2,hb.2]
theorem sameBits_key {k:KV} {s:Option IntKind} (hs:shapeK k=some s) {va:Value} (ha:RelV ρ k va) (n:Nat):Instr.sameBits n va va=true:=by
  cases k <;> simp [shapeK] at hs <;> simp only [RelV] at ha
  · subst ha;cases n <;> simp [Instr.sameBits]
  · obtain ⟨_,rfl⟩:=ha
    have:(strOf ‹_› ‹_› == strOf ‹_› ‹_›)=true:=(ba_beq_iff _ _).2 rfl
    cases n <;> simp only [Instr.sameBits] <;> exact (ba_beq_iff _ _).2 rfl
theorem fits_shape {d:TypeDesc} {k:KV} (h:keyFits d k=true) : ∃ s,shapeK k=some s:=by
  cases k <;> cases d <;> simp [keyFits] at h <;> exact ⟨_,rfl⟩
theorem perm_mid {α:Type} {a b c d:List α} {x y:α} (h:(a ++ x :: b).Perm (c ++ x :: d)):(a ++ y :: b).Perm (c ++ y :: d):=by
  have h1:(x :: (a ++ b)).Perm (x :: (c ++ d)):=(List.perm_middle.symm.trans h).trans List.perm_middle
  have h2:=h1.cons_inv
  exact (List.perm_middle.trans (h2.cons y)).trans List.perm_middle.symm
theorem mapUpdate_ok (r:Rel w0 K ρ h nx w) {t:TypeId} {m k v:KV} {vm vk vv:Value} {h':Heap} (he:mapUpdateK P h t m k v=some h') (hm:RelV ρ m vm) (hk:RelV ρ k vk) (hv:RelV ρ v vv) :
    ∃ w',(Instr.mapUpdate t vm vk vv).run P w=.ok () w'∧Rel w0 K ρ h' nx w'∧Stp ρ h nx ρ h' nx:=by
  unfold mapUpdateK at he
  split at he
  · cases he
  · rename_i kt et hty
    have hu:=mapTys_ok hty
    split at he
    · cases he
    · rename_i hkt
      obtain ⟨d,hud,hd⟩:=keyTy_ok hkt
      split at he
      · rename_i b
        simp only [RelV] at hm
        obtain ⟨c,N,hr,rfl⟩:=hm
        split at he
        · rename_i es hb
          obtain ⟨o',h1,⟨ents,clock,rfl,hkeys,l,hp,hrel⟩,_⟩:=r.img b _ c N hb hr
          have hget:(getObj c).run P w=.ok (.map ents clock) w:=by simp [getObj,Sem.run,h1]
          have hset : ∀ o,(setObj c o).run P w=.ok () { w with heap:=w.heap.setIfInBounds c o } := fun o=>by simp [setObj,Sem.run,h1]
          split at he
          · rename_i es' hput
            cases he
            have hsome:=keys_some hkeys (putK_some hput)
            obtain ⟨s,hs⟩:=fits_shape hd
            rcases find_ok (P:=P) (w:=w) hud hd hp hrel hk hsome with ⟨g1,g2⟩ | ⟨j,e,g1,g2,_⟩
            · have := putK_new hput g2
              subst this
              refine ⟨_,?_,r.set hb rfl hr (o':=.map (ents.push { key:=vk,val:=vv,born:=clock }) (clock+1)) ⟨_,_,rfl,?_,l ++ [{ key:=vk,val:=vv,born:=clock }],?_,?_⟩,Stp.set hr⟩
              · simp [Instr.mapUpdate,run_underlying' hu,hget,checkKey_ok hkt hk,g1,hset]
              · obtain ⟨hn,s',hs'⟩:=hkeys
                have hnotin : ∀ x ∈ es,k≠x.1:=fun x hx e=>by
                  obtain ⟨ex,_,ex1,_⟩:=hrel.mem' x hx
                  have:=(keyEq_iff (g2 x hx) hk ex1).1.2 e
                  cases this
                refine ⟨?_,?_⟩
                · rw [List.map_append,List.nodup_append]
                  refine ⟨hn,by simp,fun a ha b hb' => ?_⟩
                  simp at hb'
                  subst hb'
                  obtain ⟨x,hx,rfl⟩:=List.mem_map.1 ha
                  exact fun e=>hnotin x hx e.symm
                · cases hes:es with
                  | nil=>exact ⟨s,by simp [hs]⟩
                  | cons y ys =>
                    have hy:y ∈ es:=by rw [hes];simp
                    refine ⟨s',fun x hx => ?_⟩
                    rw [← hes] at hx
                    rcases List.mem_append.1 hx with hx | hx
                    · exact hs' x hx
                    · simp at hx;subst hx
                      have:=mt (keyEq_shape (a:=k) (b:=y.1)).2 (by rw [g2 y hy];simp)
                      have:=(Classical.not_not.1 this).1
                      rw [this];exact hs' y hy
              · simpa using hp.append_right [{ key:=vk,val:=vv,born:=clock }]
              · exact hrel.append (by simp only [RelE];exact ⟨_,[],rfl,hk,hv,rfl⟩)
            · have hel:e ∈ l:=hp.mem_iff.2 (by simpa using Array.mem_of_getElem? g1)
              obtain ⟨es1,x,es2,l1,l2,rfl,rfl,q1,q2,q3,q4⟩:=hrel.split e hel
              have hx : keyEq k x.1=some true:=by
                rename_i hfound
                obtain ⟨y,hy,hy1,hy2,_⟩:=hfound
                have hyx:y.1=x.1:=by
                  cases hq:keyEq y.1 x.1 with
                  | none =>
                    have h3:=keyEq_shape.1 hq
                    obtain ⟨_,s',hs'⟩:=hkeys
                    exact absurd ⟨by rw [hs' y hy,hs' x (by simp)],by rw [hs' y hy];simp⟩ h3
                  | some q =>
                    have h3:=keyEq_iff hq hy2 q3
                    obtain ⟨_,s',hs'⟩:=hkeys
                    have h4:q=true:=by
                      cases hyk:y.1 <;> rw [hyk] at hq hy2 <;> cases hxk:x.1 <;> rw [hxk] at hq q3 <;> simp only [keyEq] at hq <;> (try (cases hq;done)) <;> simp only [RelV] at hy2 q3
                      · rw [hy2] at q3
                        cases q3
                        simp [kindEq,(eqI_iff _ _).2 rfl] at hq
                        exact hq
                      · obtain ⟨a1,a2⟩:=hy2
                        obtain ⟨b1,b2⟩:=q3
                        rw [a2] at b2
                        injection b2 with b2
                        cases hq
                        rw [strEq_iff a1 b1]
                        exact strOf_eq_iff.1 b2
                    exact h3.1.1 h4
                rw [← hyx];exact hy1
              have hkx:k=x.1:=(keyEq_iff hx hk q3).1.1 rfl
              have hbefore : ∀ y ∈ es1,keyEq k y.1=some false:=fun y hy=>by
                cases hq:keyEq k y.1 with
                | none=>exact absurd hq (hsome y (by simp [hy]))
                | some q =>
                  obtain ⟨ey,_,ey1,_⟩:=q1.mem' y hy
                  have:k≠y.1:=fun e=>by
                    have hn:=hkeys.1
                    rw [List.map_append,List.nodup_append] at hn
                    exact hn.2.2 y.1 (List.mem_map.2 ⟨y,hy,rfl⟩) x.1 (by simp) (by rw [← e,hkx])
                  rw [keyEq_self_false hq this hk ey1]
              have:=putK_old hput hx hbefore
              subst this
              have hkey:e.key=vk:=key_unique hs (by rw [hkx];exact q3) hk
              obtain ⟨m1,m2,hm1,hm2⟩:=modify_split ents j e (fun e => { e with key:=vk,val:=vv }) g1
              refine ⟨_,?_,r.set hb rfl hr (o':=.map (ents.modify j fun e => { e with key:=vk,val:=vv }) clock) ⟨_,_,rfl,?_,l1 ++ { e with key:=vk,val:=vv } :: l2,?_,?_⟩,Stp.set hr⟩
              · simp [Instr.mapUpdate,run_underlying' hu,hget,checkKey_ok hkt hk,g2,hset,g1,hkey,Instr.keyThatStays,sameBits_key hs hk]
              · obtain ⟨hn,s',hs'⟩:=hkeys
                refine ⟨by simpa using hn,s',fun y hy => ?_⟩
                rcases List.mem_append.1 hy with hy | hy
                · exact hs' y (by simp [hy])
                · rcases List.mem_cons.1 hy with rfl | hy
                  · exact hs' x (by simp)
                  · exact hs' y (by simp [hy])
              · rw [hm2]
                rw [hm1] at hp
                exact perm_mid hp
              · refine q1.append ?_
                simp only [RelE]
                exact ⟨_,l2,rfl,by rw [← hkx];exact hk,hv,q2⟩
          · cases he
        · cases he
      · cases he
end
end Go.Ev
namespace Go.Ev
def lput {α:Type} (l:List α) (off:Nat) (new:List α):List α :=
  match l with
  | []=>[]
  | a :: r=>match off with
    | 0=>match new with | []=>a :: r | b :: s=>b :: lput r 0 s
    | o+1=>a :: lput r o new
theorem lput_zero {α:Type} : ∀ (l new:List α),new.length≤l.length→lput l 0 new=new ++ l.drop new.length
  | [],new,h=>by simp at h;subst h;simp [lput]
  | a :: r,[],_=>by simp [lput]
  | a :: r,b :: s,h=>by simp [lput,lput_zero r s (by simpa using h)]
theorem lput_eq {α:Type} : ∀ (l:List α) (off:Nat) (new:List α),off+new.length≤l.length→lput l off new=l.take off ++ new ++ l.drop (off+new.length)
  | l,0,new,h=>by simpa using lput_zero l new (by simpa using h)
  | [],off+1,new,h=>by simp at h
  | a :: r,off+1,new,h=>by
    simp only [lput,lput_eq r off new (by simp at h;omega)]
    rw [show off+1+new.length=(off+new.length)+1 by omega]
    simp
def fillK (place:Nat→Option (Nat × Nat)):List KV→List (Nat × KV)→Option (List KV)
  | cells,[]=>some cells
  | cells,(i,v) :: rest=>match place i with
    | none=>none
    | some (off,size)=>match Nat.beq (nlen v.cells) size with
      | true=>match Nat.ble (Nat.add off size) (nlen cells) with
        | true=>fillK place (lput cells off v.cells) rest
        | false=>none
      | false=>none
noncomputable def evalParts (tm:PT KV):List (Nat × Operand)→Option (List (Nat × KV))
  | []=>some []
  | (i,x) :: r=>match evalK tm x with
    | none=>none
    | some v=>match evalParts tm r with
      | none=>none
      | some l=>some ((i,v) :: l)
def RelP (ρ:Ren):List (Nat × KV)→List (Nat × Value)→Prop
  | [],l=>l=[]
  | (i,k) :: r,l => ∃ v s,l=(i,v) :: s∧RelV ρ k v∧RelP ρ r s
theorem evalParts_rel {ρ:Ren} {tm:PT KV} {ev:Operand→Value} : ∀ {l:List (Nat × Operand)} {ks:List (Nat × KV)},RelX ρ tm ev (l.map (·.2))→evalParts tm l=some ks →
    RelP ρ ks (l.map fun (i,x)=>(i,ev x))
  | [],ks,_,h=>by simp [evalParts] at h;subst h;simp [RelP]
  | (i, x) :: r,ks,hx,h=>by
    simp only [evalParts] at h
    cases hv:evalK tm x with
    | none=>simp [hv] at h
    | some k =>
      cases hr:evalParts tm r with
      | none=>simp [hv,hr] at h
      | some l' =>
        simp only [hv,hr,Option.some.injEq] at h
        subst h
        simp only [RelP,List.map_cons]
        exact ⟨_,_,rfl,hx x (by simp) k hv,evalParts_rel (fun y hy=>hx y (by simp;simp at hy;exact .inr hy)) hr⟩
theorem foldl_set (off:Nat) : ∀ (vs:List Value) (k:Nat) (arr:Array Value),off+k+vs.length≤arr.size →
    ((vs.zipIdx k).foldl (fun cs (x:Value × Nat)=>cs.setIfInBounds (off+x.2) x.1) arr)=putAt arr (off+k) vs
  | [],k,arr,h=>by simp [putAt]
  | v :: r,k,arr,h=>by
    simp only [List.zipIdx_cons,List.foldl_cons]
    simp only [List.length_cons] at h
    have hsz:(arr.setIfInBounds (off+k) v).size=arr.size:=by simp
    rw [foldl_set off r (k+1) _ (by rw [hsz];omega)]
    apply Array.ext_getElem?
    intro i
    rw [putAt_get (by rw [hsz];omega),putAt_get (by simp only [List.length_cons];omega)]
    simp only [List.length_cons]
    by_cases h1:off+(k+1)≤i∧i<off+(k+1)+r.length
    · rw [if_pos h1,if_pos (by omega)]
      rw [show i - (off+k)=(i - (off+(k+1)))+1 by omega]
      simp
    · rw [if_neg h1]
      by_cases h2:i=off+k
      · subst h2
        rw [if_pos (by omega)]
        have hin:off+k<arr.size:=by omega
        simp [hin]
      · rw [if_neg (by omega),Array.getElem?_setIfInBounds_ne (fun e=>h2 e.symm)]
theorem RelVs.put {ρ:Ren} {ks new:List KV} {arr:Array Value} {vs:List Value} {off:Nat} (h:RelVs ρ ks arr.toList) (hn:RelVs ρ new vs) (hfit:off+new.length≤ks.length) :
    RelVs ρ (lput ks off new) (putAt arr off vs).toList:=by
  rw [lput_eq _ _ _ hfit]
  have hl:=hn.length
  have hla:=h.length
  have h1:=h.sub 0 off
  have h2:=h.sub (off+new.length) ks.length
  have e1:(ks.drop (off+new.length)).take ks.length=ks.drop (off+new.length):=List.take_of_length_le (by simp)
  have e2:(arr.toList.drop (off+new.length)).take ks.length=arr.toList.drop (off+new.length):=List.take_of_length_le (by rw [List.length_drop,hla];omega)
  rw [e1,e2] at h2
  simp only [List.drop_zero] at h1
  have:=(h1.append hn).append h2
  simpa [putAt,hl] using this
theorem fill_ok {ρ:Ren} {place:Nat→Option (Nat × Nat)} : ∀ {parts:List (Nat × KV)} {cells out:List KV} {vparts:List (Nat × Value)} {arr:Array Value},fillK place cells parts=some out→RelP ρ parts vparts→RelVs ρ cells arr.toList →
    ∃ arr',Instr.fill place arr vparts=some arr'∧RelVs ρ out arr'.toList∧arr'.size=arr.size
  | [],cells,out,vparts,arr,h,hp,hc=>by
    simp [fillK] at h;subst h
    simp only [RelP] at hp;subst hp
    exact ⟨arr,rfl,hc,rfl⟩
  | (i, v) :: rest,cells,out,vparts,arr,h,hp,hc=>by
    simp only [RelP] at hp
    obtain ⟨u,s,rfl,hv,hs⟩:=hp
    simp only [fillK] at h
    split at h
    · cases h
    · rename_i off size hpl
      split at h
      · rename_i hsz
        have hsz:=Nat.eq_of_beq_eq_true hsz
        rw [nlen_eq] at hsz
        split at h
        · rename_i hfit
          have hfit:=Nat.le_of_ble_eq_true hfit
          rw [nlen_eq] at hfit
          have hfit':off+v.cells.length≤cells.length:=by rw [hsz];exact hfit
          have hcv:=hv.cells
          have hul:u.cells.size=size:=by have:=hcv.length;simp at this;omega
          have hal:=hc.length
          simp at hal
          obtain ⟨arr',h1,h2,h3⟩:=fill_ok h hs (hc.put hcv hfit')
          have hfold:=foldl_set off u.cells.toList 0 arr (by simp;omega)
          refine ⟨arr',?_,h2,by rw [h3,putAt_size (by simp;omega)]⟩
          simp only [Instr.fill,hpl]
          rw [if_neg (by simp;omega)]
          rw [← h1]
          congr 1
          rw [← Array.foldl_toList]
          simpa using hfold
        · cases h
      · cases h
section
variable (P:Program)
def structPlace (fs:List Field) (i:Nat):Option (Nat × Nat) :=
  match lget fs i with
  | none=>none
  | some f=>match sizeOf' P f.type with
    | some n=>some (f.offset,n)
    | none=>none
def allSizes:List Field→Bool
  | []=>true
  | f :: r=>match sizeOf' P f.type with | some _=>allSizes r | none=>false
def buildK (t:TypeId) (parts:List (Nat × KV)):Option KV :=
  match zeroOf P t with
  | none=>none
  | some z=>match P.underlying t with
    | some (.struct fs)=>match allSizes P fs.toList with
      | true=>match fillK (structPlace P fs.toList) z.cells parts with
        | some l=>some (.agg l)
        | none=>none
      | false=>none
    | some (.array _ e)=>match sizeOf' P e with
      | some s=>match fillK (fun i=>some (Nat.mul i s,s)) z.cells parts with
        | some l=>some (.agg l)
        | none=>none
      | none=>none
    | _=>none
variable {P}
variable {w0:World} {K:Nat→Prop} {ρ:Ren} {h:Heap} {nx:Nat} {w:World}
theorem places_ok : ∀ {fs:List Field},allSizes P fs=true → ∃ pl:List (Nat × Nat),(fs.mapM (fun f=>do pure (f.offset,← sizeOf f.type):Field→Sem (Nat × Nat))).run P w=.ok pl w ∧ ∀ i,pl[i]?=structPlace P fs i
  | [],_=>⟨[],by simp,fun i=>by simp [structPlace,lget]⟩
  | f :: r,h=>by
    simp only [allSizes] at h
    split at h
    · rename_i n hn
      obtain ⟨pl,h1,h2⟩:=places_ok h
      refine ⟨(f.offset,n) :: pl,?_,fun i => ?_⟩
      · simp only [List.mapM_cons,Sem.run_bind,run_sizeOf' hn,Result.andThen_ok,Sem.run_pure,h1]
      · cases i with
        | zero=>simp [structPlace,lget,hn]
        | succ i=>simpa [structPlace,lget] using h2 i
    · cases h
theorem build_ok {t:TypeId} {parts:List (Nat × KV)} {vparts:Array (Nat × Value)} {k:KV} (he:buildK P t parts=some k) (hp:RelP ρ parts vparts.toList) :
    ∃ u,(Instr.build t vparts).run P w=.ok u w∧RelV ρ k u:=by
  unfold buildK at he
  split at he
  · cases he
  · rename_i z hz
    obtain ⟨vz,hz1,hz2⟩:=run_zeroOf (ρ:=ρ) hz w
    split at he
    · rename_i fs hu
      split at he
      · rename_i hall
        split at he
        · rename_i l hl
          cases he
          obtain ⟨pl,hp1,hp2⟩:=places_ok (P:=P) (w:=w) hall
          have hpl:structPlace P fs.toList=fun i=>pl.toArray[i]?:=by funext i;rw [← hp2 i];simp
          rw [hpl] at hl
          obtain ⟨arr',h1,h2,_⟩:=fill_ok hl hp (hz2.cells)
          refine ⟨.agg arr',?_,by simp only [RelV];exact ⟨_,rfl,h2⟩⟩
          have hm:(fs.mapM (fun f=>do pure (f.offset,← sizeOf f.type):Field→Sem (Nat × Nat))).run P w=.ok pl.toArray w:=by
            simp only [Array.mapM_eq_mapM_toList,Sem.run_map,hp1,Result.andThen_ok]
          simp only [Instr.build,Sem.run_bind,hz1,Result.andThen_ok,run_underlying' hu]
          rw [hm]
          simp only [Result.andThen_ok]
          rw [h1]
          rfl
        · cases he
      · cases he
    · rename_i n e hu
      split at he
      · rename_i s hs
        split at he
        · rename_i l hl
          cases he
          obtain ⟨arr',h1,h2,_⟩:=fill_ok hl hp (hz2.cells)
          refine ⟨.agg arr',?_,by simp only [RelV];exact ⟨_,rfl,h2⟩⟩
          simp only [Instr.build,Sem.run_bind,hz1,Result.andThen_ok,run_underlying' hu,run_sizeOf' hs]
          have h1':Instr.fill (fun i=>some (i*s,s)) vz.cells vparts.toList=some arr':=h1
          rw [h1']
          rfl
        · cases he
      · cases he
    · cases he
end
end Go.Ev
namespace Go.Ev
def repK {α:Type} (l:List α):Nat→List α
  | 0=>[]
  | n+1=>l ++ repK l n
theorem repK_length {α:Type} (l:List α) : ∀ n,(repK l n).length=n*l.length
  | 0=>by simp [repK]
  | n+1=>by simp [repK,repK_length l n,Nat.add_mul,Nat.add_comm]
theorem repK_get {α:Type} (l:List α) : ∀ (n i:Nat),i<n*l.length→(repK l n)[i]?=l[i % l.length]?
  | 0,i,h=>by simp at h
  | n+1,i,h=>by
    simp only [repK]
    by_cases h1:i<l.length
    · rw [List.getElem?_append_left h1,Nat.mod_eq_of_lt h1]
    · rw [List.getElem?_append_right (by omega),repK_get l n (i - l.length) (by rw [Nat.add_mul] at h;omega)]
      congr 1
      exact (Nat.mod_eq_sub_mod (by omega)).symm
theorem rep_rel {ρ:Ren} {ks:List KV} {zs:Array Value} (h:RelVs ρ ks zs.toList) (n m:Nat) (hm:m=n*zs.size) :
    RelVs ρ (repK ks n) ((Array.range m).map fun i=>zs[i % zs.size]!).toList:=by
  have hl:=h.length
  simp at hl
  refine RelVs.mk _ _ (by simp [repK_length,hm,hl]) fun i k v hk hv => ?_
  have hi:i<n*ks.length:=by
    have:=(List.getElem?_eq_some_iff.1 hk).1
    rwa [repK_length] at this
  rw [repK_get _ _ _ hi] at hk
  obtain ⟨v',hv',hr⟩:=h.get _ _ hk
  have:v=v':=by
    simp only [Array.toList_map,Array.toList_range,List.getElem?_map] at hv
    have him:i<m:=by rw [hm,hl];exact hi
    rw [List.getElem?_range him] at hv
    simp only [Option.map_some,Option.some.injEq] at hv
    rw [← hl] at hv'
    simp only [Array.getElem?_toList] at hv'
    rw [← hv]
    rw [Array.getElem!_eq_getD,Array.getD_eq_getD_getElem?,hv']
    rfl
  subst this
  exact hr
noncomputable def rowK (cs:List KV) (ro:Bool):Option KObj :=
  match allStorable cs with
  | true=>some (.cells (nlen cs) (setCells .leaf 0 cs) ro)
  | false=>none
theorem row_rel {ρ:Ren} {cs:List KV} {ro:Bool} {o:KObj} {vs:List Value} {more:List Value} {elem:TypeId} {fz:Nat × Nat} (h:rowK cs ro=some o) (hr:RelVs ρ cs vs) (hf:ro=false→fz=(0,0)) :
    RelO ρ (vs ++ more).length o (.cells (vs ++ more).toArray elem fz):=by
  unfold rowK at h
  split at h
  · rename_i hs
    cases h
    have hl:=hr.length
    refine ⟨_,_,_,rfl,by rw [nlen_eq];simp;omega,by simp,hf,fun i k hk => ?_⟩
    rw [setCells_get] at hk
    split at hk
    · rename_i hi
      simp only [Nat.sub_zero] at hk
      obtain ⟨v,hv,hrel⟩:=hr.get _ _ hk
      refine ⟨(allStorable_iff cs).1 hs k (List.mem_of_getElem? hk),v,?_,hrel⟩
      have:i<vs.length:=(List.getElem?_eq_some_iff.1 hv).1
      simp [List.getElem?_append_left this,hv]
    · cases hk
  · cases h
theorem row_rel' {ρ:Ren} {cs:List KV} {ro:Bool} {o:KObj} {arr:Array Value} {elem:TypeId} {fz:Nat × Nat} (h:rowK cs ro=some o) (hr:RelVs ρ cs arr.toList) (hf:ro=false→fz=(0,0)) :
    RelO ρ arr.size o (.cells arr elem fz):=by
  have:=row_rel (more:=[]) (elem:=elem) h hr hf
  simpa using this
def byteCells:Nat→Nat→List KV
  | 0,_=>[]
  | l+1,m=>.int .u8 (.ofNat (Nat.mod m 256)) :: byteCells l (Nat.div m 256)
def byteVals (l n:Nat):List Value:=(bytesL l n).map fun (b:UInt8)=>Value.int .u8 (b.toNat:Int)
theorem byteCells_rel {ρ:Ren} : ∀ (l n:Nat),RelVs ρ (byteCells l n) (byteVals l n)
  | 0,_=>by simp [byteCells,byteVals,bytesL,RelVs]
  | l+1,n=>by
    simp only [byteCells,byteVals,bytesL,List.map_cons,RelVs,RelV]
    refine ⟨_,_,rfl,?_,byteCells_rel l (n / 256)⟩
    congr 1
    show ((UInt8.ofNat (n % 256)).toNat:Int)=Int.ofNat (n % 256)
    simp
section
variable (P:Program)
noncomputable def allocK (tm:PT KV) (o:Op):Option (KObj × (Nat→KV)) :=
  match o with
  | .alloc t=>match zeroOf P t with
    | some z=>match rowK z.cells false with
      | some ob=>some (ob,fun b=>.ptr b 0)
      | none=>none
    | none=>none
  | .box _ x=>match evalK tm x with
    | some v=>match rowK v.cells false with
      | some ob=>some (ob,fun b=>.ptr b 0)
      | none=>none
    | none=>none
  | .buildSlice t len parts=>match evalParts tm parts.toList,sliceElem P t with
    | some ps,some e=>match sizeOf' P e,zeroOf P e with
      | some (sz+1),some z=>match Nat.beq (nlen z.cells) (Nat.succ sz) with
        | true=>match len with
          | 0=>match ps with
            | []=>match rowK [] false with
              | some ob=>some (ob,fun b=>.slice b 0 0 0 (Nat.succ sz) true)
              | none=>none
            | _ :: _=>none
          | _+1=>match Nat.ble (Nat.mul len (Nat.succ sz)) 10000 with
            | true=>match fillK (fun i=>some (Nat.mul i (Nat.succ sz),Nat.succ sz)) (repK z.cells len) ps with
              | some cs=>match rowK cs false with
                | some ob=>some (ob,fun b=>.slice b 0 len len (Nat.succ sz) true)
                | none=>none
              | none=>none
            | false=>none
        | false=>none
      | _,_=>none
    | _,_=>none
  | .makeMap _ r=>match r with
    | none=>some (.map [],fun b=>.map b)
    | some _=>none
  | .makeSlice t l c=>match sliceElem P t,evalK tm l,evalK tm c with
    | some e,some (.int _ (.ofNat len)),some (.int _ (.ofNat cap))=>match P.info? e with
      | some info=>match info.size,zeroOf P e with
        | sz+1,some z=>match Nat.beq (nlen z.cells) (Nat.succ sz),Nat.ble len cap,Nat.ble cap 10000,Nat.ble (Nat.mul info.bytes 10000) 1000000000000 with
          | true,true,true,true=>match rowK (repK z.cells cap) false with
            | some ob=>some (ob,fun b=>.slice b 0 len cap (Nat.succ sz) true)
            | none=>none
          | _,_,_,_=>none
        | _,_=>none
      | none=>none
    | _,_,_=>none
  | .convert s d x=>match P.underlying s,P.underlying d with
    | some _,some (.slice e)=>match P.underlying e with
      | some (.int .u8)=>match evalK tm x with
        | some (.str l n)=>match rowK (byteCells l n) true with
          | some ob=>some (ob,fun b=>.slice b 0 l l 1 false)
          | none=>none
        | _=>none
      | _=>none
    | _,_=>none
  | _=>none
variable {P}
variable {w0:World} {K:Nat→Prop} {ρ:Ren} {h:Heap} {nx:Nat} {w:World}
def Makes (P:Program) (ρ:Ren) (w:World) (s:Sem Value) (ob:KObj) (mk:Nat→KV):Prop :=
  ∃ o' N u d,s.run P w=.ok u { w with heap:=w.heap.push o',drawn:=d } ∧ RelO ρ N ob o' ∧ ∀ (ρ':Ren) b,ρ' b=some (w.heap.size,N)→RelV ρ' (mk b) u
theorem makes_row {s:Sem Value} {cs:List KV} {arr:Array Value} {elem:TypeId} {ob:KObj} (hr:rowK cs false=some ob) (hv:RelVs ρ cs arr.toList)
    (hs:s.run P w=.ok (.pointer (some ⟨w.heap.size,0,none⟩)) { w with heap:=w.heap.push (.cells arr elem) }):Makes P ρ w s ob (fun b=>.ptr b 0) :=
  ⟨_,arr.size,_,w.drawn,hs,row_rel' hr hv (fun _=>rfl),fun ρ' b hb=>by simp only [RelV];exact ⟨_,_,hb,rfl⟩⟩
theorem makes_slice {s:Sem Value} {cs:List KV} {arr:Array Value} {elem:TypeId} {ob:KObj} {len cap es:Nat} (hr:rowK cs false=some ob) (hv:RelVs ρ cs arr.toList) (hsz:cap*es≤arr.size) (hlc:len≤cap)
    (hs:s.run P w=.ok (.slice (some ⟨w.heap.size,0,none⟩) len cap) { w with heap:=w.heap.push (.cells arr elem) }):Makes P ρ w s ob (fun b=>.slice b 0 len cap es true) :=
  ⟨_,arr.size,_,w.drawn,hs,row_rel' hr hv (fun _=>rfl),fun ρ' b hb=>by simp only [RelV];exact ⟨_,_,cap,hb,rfl,by omega,Nat.le_refl _,fun _=>rfl,hlc⟩⟩
theorem strBytes_run (e:TypeId) (l n:Nat) (w:World) : ∃ (c:Nat) (more:List Value) (fz:Nat × Nat),l≤c∧l+more.length=c ∧
    (Conv.stringToBytes e (strOf l n)).run P w=.ok (.slice (some ⟨w.heap.size,0,none⟩) l c)
      { w with heap:=w.heap.push (.cells (byteVals l n ++ more).toArray e fz),drawn:=w.drawn+1 } := by
  have hcut:l≤(Question.appendCap l 0 e).cut (w.tape w.drawn (.appendCap l 0 e)):=by simp [Question.cut]
  generalize hc:(Question.appendCap l 0 e).cut (w.tape w.drawn (.appendCap l 0 e))=c at hcut
  refine ⟨c,List.replicate (c - l) (Value.int .u8 0),(c,c+1),hcut,by rw [List.length_replicate];omega,?_⟩
  have harr:((strOf l n).data.map fun (b:UInt8)=>Value.int .u8 (b.toNat:Int)) ++ Array.replicate (c - l) (Value.int .u8 0)=(byteVals l n ++ List.replicate (c - l) (Value.int .u8 0)).toArray:=by
    apply Array.ext'
    simp [strOf,byteVals]
  have hsz:(byteVals l n ++ List.replicate (c - l) (Value.int .u8 0)).toArray.size=c:=by
    simp [byteVals,bytesL_length];omega
  simp only [Conv.stringToBytes,Sem.run_bind,run_choose,Question.forced,Bool.false_eq_true,if_false,Result.andThen_ok,strOf_size,newRow,run_newObj,Sem.run_pure,markStringish,run_shape,hc,harr]
  have hshape:({ w with heap:=w.heap.push (.cells (byteVals l n ++ List.replicate (c - l) (Value.int .u8 0)).toArray e),drawn:=w.drawn+1 } : World).shape? w.heap.size=some (e,c):=by
    simp only [World.shape?,Array.getElem?_push_size,hsz]
  rw [hshape]
  simp only [run_freeze,Result.andThen_ok]
  congr 1
  simp only [World.freeze,Nat.one_ne_zero,if_false]
  congr 1
  apply Array.ext_getElem?
  intro i
  rw [Array.getElem?_modify]
  by_cases hi:w.heap.size=i
  · subst hi
    simp
  · rw [if_neg hi]
    simp only [Array.getElem?_push,if_neg (fun e=>hi (Eq.symm e))]
theorem alloc_ok {tm:PT KV} {ev:Operand→Value} {o:Op} {ob:KObj} {mk:Nat→KV} (he:allocK P tm o=some (ob,mk)) (hx:RelX ρ tm ev o.operands.toList) :
    (∃ t,o=.alloc t∧Makes P ρ w (Instr.alloc t true (.tuple #[])) ob mk) ∨
    (∃ t x,o=.box t x∧Makes P ρ w (Instr.box t (ev x)) ob mk) ∨
    (∃ t len parts,o=.buildSlice t len parts∧Makes P ρ w (Instr.buildSlice t len (parts.map fun (i,x)=>(i,ev x))) ob mk) ∨
    (∃ t,o=.makeMap t none∧Makes P ρ w (Instr.makeMap t none) ob mk) ∨
    (∃ t l c,o=.makeSlice t l c∧Makes P ρ w (Instr.makeSlice t (ev l) (ev c)) ob mk) ∨
    (∃ s d x,o=.convert s d x∧Makes P ρ w (convert s d (ev x)) ob mk):=by
  unfold allocK at he
  split at he
  · rename_i t
    left
    refine ⟨t,rfl,?_⟩
    split at he
    · rename_i z hz
      split at he
      · rename_i ob' hrow
        cases he
        obtain ⟨vz,h1,h2⟩:=run_zeroOf (ρ:=ρ) hz w
        refine makes_row hrow (h2.cells) (elem:=t) ?_
        simp [Instr.alloc,h1,newVar,newRow]
      · cases he
    · cases he
  · rename_i t x
    right;left
    refine ⟨t,x,rfl,?_⟩
    split at he
    · rename_i v hv
      split at he
      · rename_i ob' hrow
        cases he
        have hrel:=hx x (by simp [Op.operands]) v hv
        refine makes_row hrow (hrel.cells) (elem:=t) ?_
        simp [Instr.box,newVar,newRow]
      · cases he
    · cases he
  · rename_i t len parts
    right;right;left
    refine ⟨t,len,parts,rfl,?_⟩
    split at he
    · rename_i ps e hps hel
      have hu:=sliceElem_ok hel
      split at he
      · rename_i sz z hsz hz
        split at he
        · rename_i hzl
          have hzl:=Nat.eq_of_beq_eq_true hzl
          rw [nlen_eq] at hzl
          split at he
          · split at he
            · split at he
              · rename_i ob' hrow
                cases he
                have hparts:=evalParts_rel (ρ:=ρ) (tm:=tm) (ev:=ev) (l:=parts.toList) (by
                  intro x hx'
                  refine hx x ?_
                  simp only [Op.operands]
                  simpa using hx') hps
                have hpl:parts=#[]:=by simpa [RelP] using hparts
                subst hpl
                refine makes_slice hrow (arr:=#[]) (by simp [RelVs]) (elem:=e) (by simp) (Nat.le_refl _) ?_
                simp [Instr.buildSlice,Sem.run_bind,run_underlying' hu,Result.andThen_ok,run_sizeOf' hsz,Instr.fill,newRow,show Array.range 0=#[] from rfl]
              · cases he
            · cases he
          · rename_i len'
            split at he
            · rename_i hbig
              have hbig:=Nat.le_of_ble_eq_true hbig
              split at he
              · rename_i cs hfill
                split at he
                · rename_i ob' hrow
                  cases he
                  obtain ⟨vz,h1,h2⟩:=run_zeroOf (ρ:=ρ) hz w
                  have h2c:=h2.cells
                  have hvl:vz.cells.size=sz+1:=by have:=h2c.length;simp at this;omega
                  have hrep:=rep_rel h2c (len'+1) ((len'+1)*(sz+1)) (by rw [hvl])
                  have hparts:=evalParts_rel (ρ:=ρ) (tm:=tm) (ev:=ev) (l:=parts.toList) (by
                    intro x hx'
                    refine hx x ?_
                    simp only [Op.operands]
                    simpa using hx') hps
                  obtain ⟨arr',g1,g2,g3⟩:=fill_ok hfill hparts hrep
                  refine makes_slice hrow g2 (elem:=e) (by rw [g3,Array.size_map,Array.size_range];exact Nat.le_refl _) (Nat.le_refl _) ?_
                  have hb:¬ ((len'+1)*(sz+1) > 2 ^ 24):=by
                    have:(len'+1).mul (sz+1)=(len'+1)*(sz+1):=rfl
                    have hbig':(len'+1)*(sz+1)≤10000:=hbig
                    omega
                  have hne:¬ ((len'+1)*(sz+1)=0):=by
                    exact Nat.ne_of_gt (Nat.mul_pos (Nat.succ_pos len') (Nat.succ_pos sz))
                  simp only [Instr.buildSlice,Sem.run_bind,run_underlying' hu,Result.andThen_ok,run_sizeOf' hsz]
                  rw [if_neg hb,if_neg hne]
                  have g1':Instr.fill (fun i=>some (i*(sz+1),sz+1)) ((Array.range ((len'+1)*(sz+1))).map fun i=>vz.cells[i % vz.cells.size]!) ((parts.map fun (i,x)=>(i,ev x)).toList)=some arr':=by
                    rw [Array.toList_map];exact g1
                  simp only [Sem.run_bind,h1,Result.andThen_ok,Sem.run_pure,g1',newRow,run_newObj]
                · cases he
              · cases he
            · cases he
        · cases he
      · cases he
    · cases he
  · rename_i t r
    right;right;right;left
    split at he
    · cases he
      refine ⟨t,rfl,.map #[] 0,0,.map (some w.heap.size),w.drawn,?_,⟨#[],0,rfl,⟨by simp,none,by simp⟩,[],by simp,by simp [RelE]⟩,fun ρ' b hb=>by simp only [RelV];exact ⟨_,_,hb,rfl⟩⟩
      simp [Instr.makeMap]
    · cases he
  · rename_i t l c
    right;right;right;right;left
    refine ⟨t,l,c,rfl,?_⟩
    split at he
    · rename_i e kl len kc cap hel hl hc
      have hu:=sliceElem_ok hel
      have hrl:=hx l (by simp [Op.operands]) _ hl
      have hrc:=hx c (by simp [Op.operands]) _ hc
      simp only [RelV] at hrl hrc
      split at he
      · rename_i info hinfo
        split at he
        · rename_i sz z hsz hz
          split at he
          · rename_i hzl hlc hcap hbytes
            have hzl:=Nat.eq_of_beq_eq_true hzl
            rw [nlen_eq] at hzl
            have hlc:=Nat.le_of_ble_eq_true hlc
            have hcap:=Nat.le_of_ble_eq_true hcap
            have hbytes:info.bytes*10000≤1000000000000:=Nat.le_of_ble_eq_true hbytes
            split at he
            · rename_i ob' hrow
              cases he
              obtain ⟨vz,h1,h2⟩:=run_zeroOf (ρ:=ρ) hz w
              have h2c:=h2.cells
              have hvl:vz.cells.size=sz+1:=by have:=h2c.length;simp at this;omega
              rw [hrl,hrc]
              have hwl:IntKind.i64.wrap (Int.ofNat len)=(len:Int):=by
                simp [IntKind.wrap,IntKind.bits,IntKind.signed];omega
              have hwc:IntKind.i64.wrap (Int.ofNat cap)=(cap:Int):=by
                simp [IntKind.wrap,IntKind.bits,IntKind.signed];omega
              have hbc:info.bytes*cap≤1000000000000:=Nat.le_trans (Nat.mul_le_mul_left _ hcap) hbytes
              have hrep:=rep_rel h2c cap (cap*(sz+1)) (by rw [hvl])
              refine makes_slice hrow hrep (elem:=e) (by simp) hlc ?_
              have hsz':sizeOf' P e=some (sz+1):=by simp [sizeOf',hinfo,hsz]
              simp only [Instr.makeSlice,Sem.run_bind,run_underlying' hu,Result.andThen_ok,asInt,asIntOf,Sem.run_pure,run_typeInfo' hinfo,hwl,hwc]
              have h1c:¬ ((cap:Int)<0):=by omega
              have h2c':¬ ((info.bytes:Int)*(cap:Int) > 2 ^ 48):=by
                rw [← Int.natCast_mul]
                have h48:((2:Int) ^ 48)=281474976710656:=by decide
                rw [h48]
                omega
              have h3c:¬ ((len:Int)<0):=by omega
              have h4c:¬ ((len:Int) > (cap:Int)):=by omega
              simp only [h1c,h2c',h3c,h4c,decide_false,Bool.or_false,Bool.false_eq_true,if_false,Sem.run_bind,run_askRoom,Result.andThen_ok,run_sizeOf' hsz',Int.toNat_natCast]
              by_cases hc0:cap=0
              · subst hc0
                have e0:Array.range 0=#[]:=rfl
                simp [newRow,e0]
              · have hn0:¬ (cap*(sz+1)=0):=Nat.ne_of_gt (Nat.mul_pos (Nat.pos_of_ne_zero hc0) (Nat.succ_pos sz))
                rw [if_neg hn0]
                simp only [Sem.run_bind,h1,Result.andThen_ok,Sem.run_pure,newRow,run_newObj]
            · cases he
          · cases he
        · cases he
      · cases he
    · cases he
  · rename_i s d x
    right;right;right;right;right
    refine ⟨s,d,x,rfl,?_⟩
    split at he
    · rename_i ds e hs hd
      split at he
      · rename_i hue
        split at he
        · rename_i l n hxv
          split at he
          · rename_i ob' hrow
            cases he
            have hrel:=hx x (by simp [Op.operands]) _ hxv
            simp only [RelV] at hrel
            obtain ⟨_,hev⟩:=hrel
            rw [hev]
            have hb:=byteCells_rel (ρ:=ρ) l n
            obtain ⟨c,more,fz,hcut,hlen,hrun⟩:=strBytes_run (P:=P) e l n w
            refine ⟨_,_,.slice (some ⟨w.heap.size,0,none⟩) l c,w.drawn+1,?_,row_rel (more:=more) (elem:=e) (fz:=fz) hrow hb (fun h=>by cases h),?_⟩
            · simp only [convert,Sem.run_bind,run_underlying' hs,run_underlying' hd,Result.andThen_ok,run_underlying' hue]
              exact hrun
            · intro ρ' b hb'
              simp only [RelV]
              refine ⟨_,_,_,hb',rfl,?_,hcut,(fun h=>absurd h (by simp)),Nat.le_refl _⟩
              simp [byteVals,bytesL_length];omega
          · cases he
        · cases he
      · cases he
    · cases he
  · cases he
end
end Go.Ev
namespace Go.Ev
section
variable (P:Program)
noncomputable def firstK (h:Heap) (size n:Nat) (x:KV):Option (List KV) :=
  match x with
  | .nilslice=>some []
  | .eslice=>match n with | 0=>some [] | _+1=>none
  | .slice b off _ _ _ _=>match h.get b with
    | some (.cells _ c _)=>getCells c off (Nat.mul n size)
    | _=>none
  | .str l m=>match Nat.ble n l with | true=>some (byteCells n m) | false=>none
  | _=>none
def lenOfK:KV→Option Nat
  | .nilslice=>some 0
  | .eslice=>some 0
  | .slice _ _ l _ _ _=>some l
  | .str l _=>some l
  | _=>none
def isIntTy (t:TypeId):Option Bool :=
  match P.underlying t with
  | some (.int _)=>some true
  | some _=>some false
  | none=>none
noncomputable def whatK (h:Heap) (el:TypeId) (size bytes:Nat) (xT:TypeId) (x:KV):Option (List KV × Nat) :=
  match isIntTy P xT with
  | none=>none
  | some true=>match x with
    | .int _ (.ofNat n)=>match Nat.ble n 100000 with
      | true=>match zeroOf P el with
        | some z=>match Nat.beq (nlen z.cells) size,Nat.ble (Nat.mul bytes 100000) 1000000000000 with
          | true,true=>some (repK z.cells n,n)
          | _,_=>none
        | none=>none
      | false=>none
    | _=>none
  | some false=>match lenOfK x with
    | none=>none
    | some n=>match firstK h size n x with
      | some l=>some (l,n)
      | none=>none
variable {P}
variable {w0:World} {K:Nat→Prop} {ρ:Ren} {h:Heap} {nx:Nat} {w:World}
theorem lenOf_ok {x:KV} {v:Value} {n:Nat} (he:lenOfK x=some n) (hx:RelV ρ x v):(Builtin.lenOf v).run P w=.ok n w:=by
  unfold lenOfK at he
  split at he <;> cases he <;> simp only [RelV] at hx
  · subst hx;rfl
  · obtain ⟨a,c,rfl⟩:=hx;rfl
  · obtain ⟨_,_,_,_,rfl,_⟩:=hx;rfl
  · obtain ⟨_,rfl⟩:=hx;simp [Builtin.lenOf,strOf_size]
theorem first_ok (r:Rel w0 K ρ h nx w) {x:KV} {v:Value} {size n:Nat} {l:List KV} (he:firstK h size n x=some l) (hx:RelV ρ x v) (hs : ∀ q m,x=.str q m→size=1) (hn:x=.nilslice→n=0) :
    ∃ arr:Array Value,(∀ d,(Builtin.firstCells size n v).run P { w with drawn:=d } = .ok arr { w with drawn:=d })∧RelVs ρ l arr.toList∧arr.size=n*size:=by
  unfold firstK at he
  split at he
  · cases he
    simp only [RelV] at hx
    subst hx
    have:=hn rfl
    subst this
    exact ⟨#[],fun _=>rfl,by simp [RelVs],by simp⟩
  · split at he
    · cases he
      simp only [RelV] at hx
      obtain ⟨a,c,rfl⟩:=hx
      exact ⟨#[],fun _=>by simp [Builtin.firstCells,loadCells,loadCellsFrom],by simp [RelVs],by simp⟩
    · cases he
  · rename_i b off _ _ _ _
    simp only [RelV] at hx
    obtain ⟨c,N,cap',hr,rfl,_⟩:=hx
    split at he
    · rename_i nn cc ro hb
      obtain ⟨vs,h1,h2⟩:=cells_readD (P:=P) r hb hr he
      have hl:=h2.length
      have hl2:=(getCells_get _ _ _ _ he).1
      exact ⟨vs.toArray,h1,by simpa using h2,by simp;rw [hl,hl2];rfl⟩
    · cases he
  · rename_i q m
    split at he
    · rename_i hle
      have hle:=Nat.le_of_ble_eq_true hle
      cases he
      simp only [RelV] at hx
      obtain ⟨hm,rfl⟩:=hx
      have:=hs q m rfl
      subst this
      refine ⟨(byteVals n m).toArray,fun _ => ?_,by simpa using byteCells_rel n m,by simp [byteVals,bytesL_length]⟩
      simp only [Builtin.firstCells,Sem.run_pure]
      congr 1
      rw [strOf_extract (Nat.zero_le _) hle]
      apply Array.ext'
      simp only [strOf,byteVals,Nat.sub_zero,subStr_eq,Nat.pow_zero,Nat.div_one]
      simp [bytesL_mod n m n (Nat.le_refl _)]
    · cases he
  · cases he
theorem isIntTy_ok {t:TypeId} {b:Bool} (h:isIntTy P t=some b) : ∃ d,P.underlying t=some d∧(match d with | .int _=>true | _=>false)=b:=by
  unfold isIntTy at h
  split at h
  · cases h;exact ⟨_,‹_›,rfl⟩
  · rename_i d hni hu
    cases h
    refine ⟨d,hu,?_⟩
    cases d <;> first | rfl | exact absurd rfl (hni _)
  · cases h
theorem growBy_le (n:Nat) (hn:n≤200000) : ∀ (r c:Nat),c≤300000→Builtin.growBy n r c≤300000
  | 0,c,h=>h
  | r+1,c,h=>by
    simp only [Builtin.growBy]
    split
    · exact h
    · exact growBy_le n hn r _ (by omega)
theorem nextslicecap_le {need old:Nat} (h:old<need) (hn:need≤200000):Builtin.nextslicecap need old≤400000:=by
  unfold Builtin.nextslicecap
  split
  · omega
  · split
    · omega
    · have:=growBy_le need hn 4 old (by omega);omega
theorem zeroCells_rel {ks:List KV} {zs:Array Value} (h:RelVs ρ ks zs.toList) (n:Nat):RelVs ρ (repK ks n) (Builtin.zeroCells zs n).toList :=
  rep_rel h n (n*zs.size) rfl
theorem append_fit {sT xT el ty:TypeId} {size n len cap:Nat} {base:Option Addr} {vx:Value} {zeros:Bool} {new:Array Value} (hu:P.underlying sT=some (.slice el)) (hsz:sizeOf' P el=some size)
    (hz : ∃ d,P.underlying xT=some d∧(match d with | .int _=>true | _=>false)=zeros) {info:TypeInfo} (hinfo:P.info? el=some info)
    (hn:if zeros=true then ∃ k,vx=.int k (n:Int)∧n≤100000∧info.bytes*n≤1000000000000 else (Builtin.lenOf vx).run P w=.ok n w)
    (happ : ∀ w',w'=w∨w' = { w with drawn:=w.drawn+1 } → (if !zeros then Builtin.firstCells size n vx else if n*size=0 then pure #[] else do pure (Builtin.zeroCells (← zeroValue el).cells n):Sem (Array Value)).run P w'=.ok new w') :
    (len+n≤cap→(Builtin.append_ #[sT,xT] ty #[.slice base len cap,vx]).run P w =
      (match base with | some a=>(storeCells (a.add (len*size)) new.toList).run P w | none=>.ok () w).andThen fun _ w'=>.ok (.slice base (len+n) cap) w') ∧
    (cap<len+n→len+n≤200000→info.bytes*400000≤281474976710656 → ∀ old:Array Value,(Builtin.firstCells size len (.slice base len cap)).run P { w with drawn:=w.drawn+1 } = .ok old { w with drawn:=w.drawn+1 } →
      ∀ vz,(∀ w',(zeroValue el).run P w'=.ok vz w') →
      (Builtin.append_ #[sT,xT] ty #[.slice base len cap,vx]).run P w =
        .ok (.slice (some ⟨w.heap.size,0,none⟩) (len+n) ((Question.appendCap (len+n) cap el).cut (w.tape w.drawn (.appendCap (len+n) cap el))))
          { w with heap:=w.heap.push (.cells (old ++ new ++ Builtin.zeroCells vz.cells ((Question.appendCap (len+n) cap el).cut (w.tape w.drawn (.appendCap (len+n) cap el)) - (len+n))) el),drawn:=w.drawn+1 }):=by
  obtain ⟨d,hd,hzd⟩:=hz
  have hzr:((do pure ((← underlying xT) matches .int _):Sem Bool)).run P w=.ok zeros w:=by
    simp only [Sem.run_bind,run_underlying' hd,Result.andThen_ok,Sem.run_pure]
    rw [← hzd]
  have happ1:=happ w (.inl rfl)
  have happ2:=happ _ (.inr rfl)
  have hargs0:(#[sT,xT]:Array TypeId)[0]?=some sT:=rfl
  have hargs1:(#[sT,xT]:Array TypeId)[1]?=some xT:=rfl
  have hv0:(#[.slice base len cap,vx]:Array Value)[0]?=some (.slice base len cap):=rfl
  have hv1:(#[.slice base len cap,vx]:Array Value)[1]?=some vx:=rfl
  have tailfit:len+n≤cap→(do
      let new ← (if !zeros then Builtin.firstCells size n vx else if n*size=0 then pure #[] else do pure (Builtin.zeroCells (← zeroValue el).cells n):Sem (Array Value))
      match base with
      | some a=>do
        storeCells (a.add (len*size)) new.toList
        pure (Value.slice base (len+n) cap)
      | _=>pure (Value.slice base (len+n) cap):Sem Value).run P w =
      (match base with | some a=>(storeCells (a.add (len*size)) new.toList).run P w | none=>.ok () w).andThen fun _ w'=>.ok (.slice base (len+n) cap) w':=by
    intro _
    rw [Sem.run_bind,happ1,Result.andThen_ok]
    cases base with
    | none=>rfl
    | some a=>simp only [Sem.run_bind,Sem.run_pure]
  constructor
  · intro hfit
    cases zeros
    · simp only [Bool.false_eq_true,if_false] at hn
      have tf:=tailfit hfit
      simp only [Sem.run_bind,Bool.not_false,if_true] at tf
      cases d <;> first
        | (cases hzd;done)
        | (simp only [Builtin.append_,hargs0,hargs1,hv0,hv1,Sem.run_bind,run_underlying' hu,Result.andThen_ok,run_sizeOf' hsz,run_underlying' hd,Sem.run_pure,Bool.false_eq_true,if_false,hn,if_pos hfit,Bool.not_false,if_true]
           exact tf)
    · simp only [if_true] at hn
      obtain ⟨k,rfl,hn1,hn2⟩:=hn
      have hw1:IntKind.i64.wrap (n:Int)=(n:Int):=by
        simp [IntKind.wrap,IntKind.bits,IntKind.signed];omega
      have hw2:¬ ((n:Int)<0):=by omega
      have hw3:¬ ((n:Int)*(info.bytes:Int) > 2 ^ 48):=by
        rw [← Int.natCast_mul,Nat.mul_comm]
        have h48:((2:Int) ^ 48)=281474976710656:=by decide
        rw [h48];omega
      have tf:=tailfit hfit
      simp only [Sem.run_bind,Bool.not_true,Bool.false_eq_true,if_false] at tf
      cases d <;> first
        | (cases hzd;done)
        | (simp only [Builtin.append_,hargs0,hargs1,hv0,hv1,Sem.run_bind,run_underlying' hu,Result.andThen_ok,run_sizeOf' hsz,run_underlying' hd,Sem.run_pure,if_true,asInt,asIntOf,hw1,if_neg hw2,run_typeInfo' hinfo,if_neg hw3,Int.toNat_natCast,if_pos hfit,Bool.not_true,Bool.false_eq_true,if_false]
           exact tf)
  · intro hgrow hneed hbytes old hold vz hvz
    have hnofit:¬ (len+n≤cap):=by omega
    have hmax:¬ (((len+n:Nat):Int) > IntKind.i64.max):=by
      simp [IntKind.max,IntKind.bits,IntKind.signed];omega
    have hnext:¬ (Builtin.nextslicecap (len+n) cap*info.bytes > 2 ^ 48):=by
      have h1:=nextslicecap_le hgrow hneed
      have h2:Builtin.nextslicecap (len+n) cap*info.bytes≤400000*info.bytes:=Nat.mul_le_mul_right _ h1
      have h3:400000*info.bytes=info.bytes*400000:=Nat.mul_comm _ _
      have h48:(2:Nat) ^ 48=281474976710656:=by decide
      rw [h48];omega
    cases zeros
    · simp only [Bool.false_eq_true,if_false] at hn
      have happ3:=happ2
      simp only [Bool.not_false,if_true] at happ3
      cases d <;> first
        | (cases hzd;done)
        | (simp only [Builtin.append_,hargs0,hargs1,hv0,hv1,Sem.run_bind,run_underlying' hu,Result.andThen_ok,run_sizeOf' hsz,run_underlying' hd,Sem.run_pure,Bool.false_eq_true,if_false,hn,if_neg hnofit,run_typeInfo' hinfo]
           rw [if_neg (fun h=>hmax h.1)]
           simp only [Sem.run_bind,run_typeInfo' hinfo,Result.andThen_ok,if_neg hnext,run_choose,Question.forced,Bool.false_eq_true,if_false,run_askRoom,hold,newRow,run_newObj,Sem.run_pure,hvz,Bool.not_false,if_true,happ3])
    · simp only [if_true] at hn
      obtain ⟨k,rfl,hn1,hn2⟩:=hn
      have hw1:IntKind.i64.wrap (n:Int)=(n:Int):=by
        simp [IntKind.wrap,IntKind.bits,IntKind.signed];omega
      have hw2:¬ ((n:Int)<0):=by omega
      have hw3:¬ ((n:Int)*(info.bytes:Int) > 2 ^ 48):=by
        rw [← Int.natCast_mul,Nat.mul_comm]
        have h48:((2:Int) ^ 48)=281474976710656:=by decide
        rw [h48];omega
      have happ3:=happ2
      simp only [Bool.not_true,Bool.false_eq_true,if_false] at happ3
      cases d <;> first
        | (cases hzd;done)
        | (simp only [Builtin.append_,hargs0,hargs1,hv0,hv1,Sem.run_bind,run_underlying' hu,Result.andThen_ok,run_sizeOf' hsz,run_underlying' hd,Sem.run_pure,if_true,asInt,asIntOf,hw1,if_neg hw2,run_typeInfo' hinfo,if_neg hw3,Int.toNat_natCast,if_neg hnofit]
           rw [if_neg (fun h=>hmax h.1)]
           simp only [Sem.run_bind,run_typeInfo' hinfo,Result.andThen_ok,if_neg hnext,run_choose,Question.forced,Bool.false_eq_true,if_false,run_askRoom,hold,newRow,run_newObj,Sem.run_pure,hvz,Bool.not_true,happ3])
end
end Go.Ev
namespace Go.Ev
section
variable (P:Program)
noncomputable def appendK (h:Heap) (nx:Nat) (sT xT:TypeId) (s x:KV):Option (KV × Heap × Nat) :=
  match sliceElem P sT with
  | none=>none
  | some el=>match P.info? el,zeroOf P el with
    | some info, some z => match info.size with
      | 0=>none
      | sz+1 => match Nat.ble (Nat.mul info.bytes 400000) 281474976710656 && Nat.beq (nlen z.cells) (Nat.succ sz) with
        | false=>none
        | true => match whatK P h el (Nat.succ sz) info.bytes xT x with
          | none=>none
          | some (new, n) => match allStorable new with
            | false=>none
            | true => match s with
              | .nilslice=>match n with
                | 0=>some (.nilslice,h,nx)
                | _+1=>match Nat.ble n 200000,rowK new false with
                  | true,some ob=>some (.slice nx 0 n n (Nat.succ sz) false,h.put nx (some ob),Nat.succ nx)
                  | _,_=>none
              | .eslice=>match n with
                | 0=>some (.eslice,h,nx)
                | _+1=>none
              | .slice b off len cap es ex=>match Nat.beq es (Nat.succ sz) with
                | false=>none
                | true => match Nat.ble (Nat.add len n) cap with
                  | true=>match storeCellsK h b (Nat.add off (Nat.mul len (Nat.succ sz))) new with
                    | some h'=>some (.slice b off (Nat.add len n) cap es ex,h',nx)
                    | none=>none
                  | false=>match Nat.ble (Nat.add len n) 200000,firstK h (Nat.succ sz) len (.slice b off len cap es ex) with
                    | true,some old=>match rowK (old ++ new) false with
                      | none=>none
                      | some ob=>match ex with
                        | true=>some (.slice nx 0 (Nat.add len n) (Nat.add len n) es false,h.put nx (some ob),Nat.succ nx)
                        | false=>match ownK h b,off with
                          | true,0=>some (.slice nx 0 (Nat.add len n) (Nat.add len n) es false,(h.put b none).put nx (some ob),Nat.succ nx)
                          | _,_=>none
                    | _,_=>none
              | _=>none
    | _,_=>none
variable {P}
variable {w0:World} {K:Nat→Prop} {ρ:Ren} {h:Heap} {nx:Nat} {w:World}
theorem storeCells_raw {c off:Nat} {arr:Array Value} {elem:TypeId} {vs:List Value} (h1:w.heap[c]?=some (.cells arr elem (0,0))) (hfit:off+vs.length≤arr.size) (hone : ∀ v ∈ vs,v.oneCell'=true) :
    (storeCells ⟨c,off,none⟩ vs).run P w=.ok () { w with heap:=w.heap.setIfInBounds c (.cells (putAt arr off vs) elem (0,0)) } := by
  have hrun:=run_storeCells_at P c off elem vs 0 arr w h1 (by simpa using hfit) hone
  rw [hrun]
  congr 1
  have hlt:=(Array.getElem?_eq_some_iff.1 h1).1
  unfold World.setRow
  congr 1
  apply Array.ext_getElem?
  intro i
  by_cases hc:c=i
  · subst hc
    rw [Array.getElem?_modify,if_pos rfl,h1]
    simp [hlt,putAt]
  · rw [Array.getElem?_modify,if_neg hc,Array.getElem?_setIfInBounds_ne hc]
theorem ones {ks:List KV} {vs:List Value} (hr:RelVs ρ ks vs) (hs:allStorable ks=true) : ∀ v ∈ vs,v.oneCell'=true:=fun v hv=>by
  obtain ⟨i,hi⟩:=List.getElem?_of_mem hv
  obtain ⟨k,hk,hrel⟩:=hr.get' i v hi
  exact RelV.one ((allStorable_iff ks).1 hs k (List.mem_of_getElem? hk)) hrel
theorem what_ok (r:Rel w0 K ρ h nx w) {el:TypeId} {size bytes:Nat} {xT:TypeId} {x:KV} {vx:Value} {new:List KV} {n:Nat} (he:whatK P h el size bytes xT x=some (new,n)) (hx:RelV ρ x vx) (hstr : ∀ q m,x=.str q m→size=1) :
    ∃ (zeros:Bool) (newv:Array Value),(∃ d,P.underlying xT=some d∧(match d with | .int _=>true | _=>false)=zeros) ∧
      (if zeros=true then ∃ k,vx=.int k (n:Int)∧n≤100000∧bytes*n≤1000000000000 else (Builtin.lenOf vx).run P w=.ok n w) ∧
      (∀ w',w'=w∨w' = { w with drawn:=w.drawn+1 } → (if !zeros then Builtin.firstCells size n vx else if n*size=0 then pure #[] else do pure (Builtin.zeroCells (← zeroValue el).cells n):Sem (Array Value)).run P w'=.ok newv w') ∧
      RelVs ρ new newv.toList∧newv.size=n*size:=by
  unfold whatK at he
  split at he
  · cases he
  · rename_i hint
    split at he
    · rename_i k m
      split at he
      · rename_i hm
        have hm:=Nat.le_of_ble_eq_true hm
        split at he
        · rename_i z hz
          split at he
          · rename_i hzl hby
            cases he
            have hzl:=Nat.eq_of_beq_eq_true hzl
            rw [nlen_eq] at hzl
            have hby:bytes*100000≤1000000000000:=Nat.le_of_ble_eq_true hby
            simp only [RelV] at hx
            obtain ⟨vz,h1,h2⟩:=run_zeroOf (ρ:=ρ) hz w
            have h1' : ∀ w',(zeroValue el).run P w'=.ok vz w':=fun w'=>by
              unfold zeroOf at hz
              split at hz
              · rename_i i hi
                split at hz
                · rename_i z' hz'
                  have:(zeroValue el).run P w'=.ok z' w':=by simp [zeroValue,run_typeInfo' hi,hz']
                  have e1:(zeroValue el).run P w=.ok z' w:=by simp [zeroValue,run_typeInfo' hi,hz']
                  rw [h1] at e1
                  cases e1
                  exact this
                · cases hz
              · cases hz
            have h2c:=h2.cells
            have hvl:vz.cells.size=size:=by have:=h2c.length;simp at this;omega
            refine ⟨true,Builtin.zeroCells vz.cells n,isIntTy_ok hint,?_,fun w' _ => ?_,zeroCells_rel h2c n,by simp [Builtin.zeroCells,hvl]⟩
            · rw [if_pos rfl]
              refine ⟨k,hx,hm,?_⟩
              have:bytes*n≤bytes*100000:=Nat.mul_le_mul_left _ hm
              omega
            · simp only [Bool.not_true,Bool.false_eq_true,if_false]
              by_cases h0:n*size=0
              · rw [if_pos h0]
                have:Builtin.zeroCells vz.cells n=#[]:=by
                  apply Array.eq_empty_of_size_eq_zero
                  simp [Builtin.zeroCells,hvl,h0]
                rw [this];rfl
              · rw [if_neg h0];simp [h1']
          · cases he
        · cases he
      · cases he
    · cases he
  · rename_i hint
    split at he
    · cases he
    · rename_i m hm
      split at he
      · rename_i l hl
        cases he
        have hn0:x=.nilslice→n=0:=fun e=>by subst e;simp [lenOfK] at hm;exact hm.symm
        obtain ⟨arr,h1,h2,h3⟩:=first_ok (P:=P) r hl hx hstr hn0
        have hsame : ∀ w',w'=w∨w' = { w with drawn:=w.drawn+1 } → (Builtin.firstCells size n vx).run P w'=.ok arr w':=by
          rintro w' (rfl | rfl)
          · exact h1 _
          · exact h1 _
        exact ⟨false,arr,isIntTy_ok hint,by simp only [Bool.false_eq_true,if_false];exact lenOf_ok hm hx,fun w' hw'=>by simp only [Bool.not_false,if_true];exact hsame w' hw',h2,h3⟩
      · cases he
end
end Go.Ev
namespace Go.Ev
section
variable {P:Program}
variable {w0:World} {K:Nat→Prop} {ρ:Ren} {h:Heap} {nx:Nat} {w:World}
theorem zero_all {t:TypeId} {k:KV} (h:zeroOf P t=some k) : ∃ z,(∀ w,(zeroValue t).run P w=.ok z w) ∧ ∀ ρ,RelV ρ k z:=by
  unfold zeroOf at h
  split at h
  · rename_i i hi
    split at h
    · rename_i z hz
      exact ⟨z,fun w=>by simp [zeroValue,run_typeInfo' hi,hz],fun ρ=>ofVal_rel h⟩
    · cases h
  · cases h
theorem grown_rel {old new:List KV} {oldv newv zs:Array Value} {ob:KObj} {el:TypeId} {size len n newCap:Nat} (hrow:rowK (old ++ new) false=some ob) (ho:RelVs ρ old oldv.toList) (hn:RelVs ρ new newv.toList)
    (hso:oldv.size=len*size) (hsn:newv.size=n*size) (hz:zs.size=size) (hc:len+n≤newCap) :
    RelO ρ (oldv ++ newv ++ Builtin.zeroCells zs (newCap - (len+n))).size ob (.cells (oldv ++ newv ++ Builtin.zeroCells zs (newCap - (len+n))) el) ∧
    0+newCap*size≤(oldv ++ newv ++ Builtin.zeroCells zs (newCap - (len+n))).size:=by
  constructor
  · have hro:=row_rel (ρ:=ρ) (more:=(Builtin.zeroCells zs (newCap - (len+n))).toList) (elem:=el) (fz:=(0,0)) hrow (ho.append hn) (fun _=>rfl)
    have harr:(oldv.toList ++ newv.toList ++ (Builtin.zeroCells zs (newCap - (len+n))).toList).toArray=oldv ++ newv ++ Builtin.zeroCells zs (newCap - (len+n)):=by apply Array.ext';simp
    rw [harr] at hro
    have hl:(oldv.toList ++ newv.toList ++ (Builtin.zeroCells zs (newCap - (len+n))).toList).length=(oldv ++ newv ++ Builtin.zeroCells zs (newCap - (len+n))).size:=by simp
    rw [hl] at hro
    exact hro
  · have h1:(Builtin.zeroCells zs (newCap - (len+n))).size=(newCap - (len+n))*size:=by simp [Builtin.zeroCells,hz]
    rw [Array.size_append,Array.size_append,hso,hsn,h1,← Nat.add_mul,← Nat.add_mul]
    rw [show len+n+(newCap - (len+n))=newCap by omega]
    omega
theorem grown_ok (r:Rel w0 K ρ h nx w) {ob:KObj} {arr:Array Value} {el:TypeId} {es need newCap:Nat} (ho:RelO ρ arr.size ob (.cells arr el)) (hsz:0+newCap*es≤arr.size) (hc:need≤newCap) :
    Rel w0 K (ρ.add nx (w.heap.size,arr.size)) (h.put nx (some ob)) (nx+1) { w with heap:=w.heap.push (.cells arr el),drawn:=w.drawn+1 } ∧
    Stp ρ h nx (ρ.add nx (w.heap.size,arr.size)) (h.put nx (some ob)) (nx+1) ∧
    RelV (ρ.add nx (w.heap.size,arr.size)) (.slice nx 0 need need es false) (.slice (some ⟨w.heap.size,0,none⟩) need newCap):=by
  refine ⟨(r.drew (w.drawn+1)).new ho,Stp.new r _ _,?_⟩
  simp only [RelV]
  exact ⟨_,_,newCap,Ren.add_self _ _ _,rfl,hsz,hc,(fun e=>absurd e (by simp)),Nat.le_refl _⟩
theorem own_writable {b:Nat} {o:KObj} (hb:ownK h b=true) (ho:h.get b=some o):o.writable=true:=by
  unfold ownK at hb
  rw [ho] at hb
  split at hb
  · rename_i heq;cases heq;rfl
  · cases hb
theorem inplace_rel (r:Rel w0 K ρ h nx w) {b c N len n cap cap' es:Nat} {ex:Bool} {old new:List KV} {newv:Array Value} {ob:KObj} (hown:ownK h b=true) (hr:ρ b=some (c,N))
    (hold:firstK h es len (.slice b 0 len cap es ex)=some old) (hrow:rowK (old ++ new) false=some ob) (hn:RelVs ρ new newv.toList) (hfit:len+n≤cap') (hN:0+cap'*es≤N) (hsn:newv.size=n*es) (hst:allStorable new=true) :
    ∃ arr elem,(storeCells ⟨c,len*es,none⟩ newv.toList).run P w=.ok () { w with heap:=w.heap.setIfInBounds c (.cells (putAt arr (len*es) newv.toList) elem (0,0)) } ∧
      RelO ρ N ob (.cells (putAt arr (len*es) newv.toList) elem (0,0))∧arr.size=N:=by
  unfold ownK at hown
  split at hown
  · rename_i nn cc hg
    simp only [firstK,hg] at hold
    obtain ⟨o',h1,⟨arr,elem,fz,rfl,h2,h3,h4,h5⟩,_⟩:=r.img b _ c N hg hr
    have:=h4 rfl
    subst this
    obtain ⟨l1,l2⟩:=getCells_get _ _ _ _ hold
    have l1:old.length=len*es:=l1
    have hmul:(len+n)*es≤cap'*es:=Nat.mul_le_mul_right _ hfit
    rw [Nat.add_mul] at hmul
    have hroom:len*es+newv.toList.length≤arr.size:=by simp [hsn];omega
    refine ⟨arr,elem,storeCells_raw h1 hroom (ones hn hst),?_,h3⟩
    unfold rowK at hrow
    split at hrow
    · rename_i hall
      cases hrow
      have hlen:=hn.length
      simp at hlen
      refine ⟨_,_,_,rfl,?_,by rw [putAt_size hroom,h3],fun _=>rfl,fun i k hk => ?_⟩
      · rw [nlen_eq,List.length_append,l1];omega
      · rw [setCells_get] at hk
        split at hk
        · rename_i hi
          simp only [Nat.sub_zero] at hk
          refine ⟨(allStorable_iff _).1 hall k (List.mem_of_getElem? hk),?_⟩
          rw [putAt_get hroom]
          by_cases hio:i<old.length
          · rw [List.getElem?_append_left hio] at hk
            rw [if_neg (by omega)]
            have:=l2 i k hk
            rw [Nat.zero_add] at this
            exact (h5 i k this).2
          · rw [List.getElem?_append_right (by omega),l1] at hk
            obtain ⟨v,hv,hrv⟩:=hn.get _ _ hk
            have hlt:=(List.getElem?_eq_some_iff.1 hv).1
            rw [if_pos (by omega)]
            exact ⟨v,hv,hrv⟩
        · cases hk
    · cases hrow
  · cases hown
theorem append_ok (r : Rel w0 K ρ h nx w) {sT xT ty:TypeId} {s x k:KV} {vs vx:Value} {h':Heap} {nx':Nat} (he:appendK P h nx sT xT s x=some (k,h',nx')) (hs:RelV ρ s vs) (hx:RelV ρ x vx) (hstr : ∀ q m el size,x=.str q m→sliceElem P sT=some el→sizeOf' P el=some size→size=1) :
    ∃ u w' ρ',(Builtin.append_ #[sT,xT] ty #[vs,vx]).run P w=.ok u w'∧Rel w0 K ρ' h' nx' w'∧Stp ρ h nx ρ' h' nx'∧RelV ρ' k u:=by
  unfold appendK at he
  split at he
  · cases he
  · rename_i el hel
    have hu:=sliceElem_ok hel
    split at he
    · rename_i info z0 hinfo hz0
      split at he
      · cases he
      · rename_i sz hsize
        have hsz:sizeOf' P el=some (sz+1):=by simp [sizeOf',hinfo,hsize]
        split at he
        · cases he
        · rename_i hchk
          rw [Bool.and_eq_true] at hchk
          have hbytes:info.bytes*400000≤281474976710656:=Nat.le_of_ble_eq_true hchk.1
          have hzl:=Nat.eq_of_beq_eq_true hchk.2
          rw [nlen_eq] at hzl
          split at he
          · cases he
          · rename_i new n hwhat
            split at he
            · cases he
            · rename_i hstor
              obtain ⟨zeros,newv,hz,hn,happ,hrel,hsize2⟩:=what_ok (P:=P) r hwhat hx (fun q m e=>hstr q m el _ e hel hsz)
              obtain ⟨vz,hvz,hvr⟩:=zero_all hz0
              have hvzs:vz.cells.size=sz+1:=by have:=(hvr ρ).cells.length;simp at this;omega
              have hlen:=hrel.length
              simp at hlen
              split at he
              ·
                simp only [RelV] at hs
                subst hs
                have fit:=append_fit (P:=P) (w:=w) (ty:=ty) (len:=0) (cap:=0) (base:=none) hu hsz hz hinfo hn happ
                split at he
                · cases he
                  refine ⟨.slice none 0 0,w,ρ,?_,r,.refl _ _ _,by simp only [RelV]⟩
                  exact fit.1 (by omega)
                · rename_i m
                  split at he
                  · rename_i ob hle hrow
                    have hle:=Nat.le_of_ble_eq_true hle
                    cases he
                    have hcut:0+(m+1)≤(Question.appendCap (0+(m+1)) 0 el).cut (w.tape w.drawn (.appendCap (0+(m+1)) 0 el)):=by simp [Question.cut]
                    have hrun:=fit.2 (by omega) (by omega) hbytes #[] rfl vz (fun w'=>hvz w')
                    have hg:=grown_rel (ρ:=ρ) (old:=[]) (oldv:=#[]) (el:=el) (size:=sz+1) (len:=0) (n:=m+1) (by simpa using hrow) (by simp [RelVs]) hrel (by simp) hsize2 hvzs hcut
                    have hg2:=grown_ok r (es:=sz+1) (need:=0+(m+1)) hg.1 hg.2 hcut
                    rw [Nat.zero_add] at hrun hg2
                    exact ⟨_,_,_,hrun,hg2.1,hg2.2.1,hg2.2.2⟩
                  · cases he
              ·
                simp only [RelV] at hs
                obtain ⟨a,cap',rfl⟩:=hs
                split at he
                · cases he
                  refine ⟨.slice (some a) 0 cap',w,ρ,?_,r,.refl _ _ _,by simp only [RelV];exact ⟨_,_,rfl⟩⟩
                  have fit:=append_fit (P:=P) (w:=w) (ty:=ty) (len:=0) (cap:=cap') (base:=some a) hu hsz hz hinfo hn happ
                  have h0:newv=#[]:=Array.eq_empty_of_size_eq_zero (by rw [hsize2];simp)
                  have:=fit.1 (by omega)
                  rw [this,h0]
                  rfl
                · cases he
              · rename_i b off len cap es ex
                simp only [RelV] at hs
                obtain ⟨c,N,cap',hr,rfl,hN,hcap,hex,hlc⟩:=hs
                have fit:=append_fit (P:=P) (w:=w) (ty:=ty) (len:=len) (cap:=cap') (base:=some ⟨c,off,none⟩) hu hsz hz hinfo hn happ
                split at he
                · cases he
                · rename_i hes
                  have:=Nat.eq_of_beq_eq_true hes
                  subst this
                  split at he
                  · rename_i hfit
                    have hfit:len+n≤cap:=Nat.le_of_ble_eq_true hfit
                    split at he
                    · rename_i h1 hst
                      cases he
                      obtain ⟨w',g1,g2,g3⟩:=storeCells_ok (P:=P) r hst hr hrel
                      refine ⟨.slice (some ⟨c,off,none⟩) (len+n) cap',w',ρ,?_,g2,g3,by simp only [RelV];exact ⟨c,N,cap',hr,rfl,hN,hcap,hex,hfit⟩⟩
                      rw [fit.1 (by omega)]
                      have g1':(storeCells ((⟨c,off,none⟩:Addr).add (len*(sz+1))) newv.toList).run P w=.ok () w':=by rw [addr_add];exact g1
                      simp only [g1',Result.andThen_ok]
                    · cases he
                  · rename_i hnofit
                    split at he
                    · rename_i old hle hold
                      have hle:len+n≤200000:=Nat.le_of_ble_eq_true hle
                      split at he
                      · cases he
                      · rename_i ob hrow
                        obtain ⟨oldv,o1,o2,o3⟩:=first_ok (P:=P) r hold (v:=.slice (some ⟨c,off,none⟩) len cap') (by simp only [RelV];exact ⟨c,N,cap',hr,rfl,hN,hcap,hex,hlc⟩) (by simp) (by simp)
                        have hgrow : ∀ H,Rel w0 K ρ H nx w→cap'<len+n → ∃ u w' ρ',(Builtin.append_ #[sT,xT] ty #[.slice (some ⟨c,off,none⟩) len cap',vx]).run P w=.ok u w'∧Rel w0 K ρ' (H.put nx (some ob)) (nx+1) w'∧Stp ρ H nx ρ' (H.put nx (some ob)) (nx+1)∧RelV ρ' (.slice nx 0 (len+n) (len+n) (sz+1) false) u:=by
                          intro H rH hlt
                          have hcut:len+n≤(Question.appendCap (len+n) cap' el).cut (w.tape w.drawn (.appendCap (len+n) cap' el)):=by simp [Question.cut]
                          have hrun:=fit.2 hlt hle hbytes oldv (o1 (w.drawn+1)) vz (fun w'=>hvz w')
                          have hg:=grown_rel (ρ:=ρ) (el:=el) hrow o2 hrel o3 hsize2 hvzs hcut
                          have hg2:=grown_ok rH (es:=sz+1) (need:=len+n) hg.1 hg.2 hcut
                          exact ⟨_,_,_,hrun,hg2.1,hg2.2.1,hg2.2.2⟩
                        split at he
                        · cases he
                          have:=hex rfl
                          subst this
                          refine hgrow h r ?_
                          have:¬ (len+n≤cap'):=fun e=>by rw [Nat.ble_eq_true_of_le (show Nat.add len n≤cap' from e)] at hnofit;cases hnofit
                          omega
                        · split at he
                          · rename_i hown
                            cases he
                            by_cases hlt:cap'<len+n
                            · obtain ⟨u,w',ρ',q1,q2,q3,q4⟩:=hgrow _ (r.del b) hlt
                              exact ⟨u,w',ρ',q1,q2,(Stp.set hr).trans q3,q4⟩
                            ·
                              have hin:=inplace_rel (P:=P) r hown hr hold hrow hrel (by omega) hN hsize2 hstor
                              obtain ⟨arr,elem,p1,p2,p3⟩:=hin
                              obtain ⟨o0,g0⟩:=own_get hown
                              refine ⟨.slice (some ⟨c,0,none⟩) (len+n) cap',{ w with heap:=w.heap.setIfInBounds c (.cells (putAt arr (len*(sz+1)) newv.toList) elem (0,0)) },ρ.add nx (c,N),?_,?_,Stp.anew r hr _,?_⟩
                              · rw [fit.1 (by omega)]
                                simp only [addr_add,Nat.zero_add,p1,Result.andThen_ok]
                              · exact r.anew g0 (own_writable hown g0) hr p2
                              · simp only [RelV]
                                exact ⟨c,N,cap',Ren.add_self _ _ _,rfl,hN,by show len+n≤cap';omega,(fun e=>absurd e (by simp)),Nat.le_refl _⟩
                          · cases he
                    · cases he
              · cases he
    · cases he
end
end Go.Ev
