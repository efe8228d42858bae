/- The evaluator of closed runs, part 3 of 4: an interpreter of the model's code over values with abstract blocks, and the proof that what it answers is what the machine does. Conditions: those that its theorems state. -/
import Derived.Test.YtmcfpcgpjppfkaaGreatDoorE2
import Derived.Orders
namespace Go.Ev
section
variable (P:Program)
noncomputable def copyK (h:Heap) (dT:TypeId) (d s:KV):Option (KV × Heap) :=
  match sliceElem P dT with
  | none=>none
  | some el=>match sizeOf' P el with
    | none=>none
    | some size=>match lenOfK d,lenOfK s with
      | some dl,some sl=>match firstK h size (match Nat.ble sl dl with | true=>sl | false=>dl) s with
        | none=>none
        | some cs=>match s,size with
          | .str _ _,0=>none
          | .str _ _,_+2=>none
          | _,_=>match d with
            | .slice b off _ _ _ _=>match storeCellsK h b off cs with
              | some h'=>some (.int .i64 (.ofNat (match Nat.ble sl dl with | true=>sl | false=>dl)),h')
              | none=>none
            | .nilslice=>some (.int .i64 (.ofNat 0),h)
            | _=>none
      | _,_=>none
noncomputable def clearK (h:Heap) (t:TypeId) (x:KV):Option Heap :=
  match P.underlying t with
  | none=>none
  | some dsc=>match x with
    | .nilmap=>some h
    | .nilslice=>some h
    | .eslice=>some h
    | .map b=>match h.get b with
      | some (.map _)=>some (h.put b (some (.map [])))
      | _=>none
    | .slice b off n _ es _=>match dsc with
      | .slice el=>match n with
        | 0=>some h
        | _+1=>match sizeOf' P el,zeroOf P el with
          | some s,some z=>match Nat.beq s es,Nat.beq (nlen z.cells) s with
            | true,true=>storeCellsK h b off (repK z.cells n)
            | _,_=>none
          | _,_=>none
      | _=>none
    | _=>none
variable {P}
variable {w0:World} {K:Nat→Prop} {ρ:Ren} {h:Heap} {nx:Nat} {w:World}
theorem min_of (sl dl:Nat):(match Nat.ble sl dl with | true=>sl | false=>dl)=Nat.min sl dl:=by
  cases hb:Nat.ble sl dl
  · have:¬ sl≤dl:=fun e=>by rw [Nat.ble_eq_true_of_le e] at hb;cases hb
    show dl=min sl dl
    omega
  · have:=Nat.le_of_ble_eq_true hb
    show sl=min sl dl
    omega
theorem copy_ok (r:Rel w0 K ρ h nx w) {dT sT ty:TypeId} {d s k:KV} {vd vs:Value} {h':Heap} (he:copyK P h dT d s=some (k,h')) (hd:RelV ρ d vd) (hs:RelV ρ s vs) :
    ∃ u w',(Builtin.copy_ #[dT,sT] ty #[vd,vs]).run P w=.ok u w'∧Rel w0 K ρ h' nx w'∧Stp ρ h nx ρ h' nx∧RelV ρ k u:=by
  unfold copyK at he
  split at he
  · cases he
  · rename_i el hel
    have hu:=sliceElem_ok hel
    split at he
    · cases he
    · rename_i size hsz
      split at he
      · rename_i dl sl hdl hsl
        rw [min_of] at he
        split at he
        · cases he
        · rename_i cs hcs
          have hlen:=lenOf_ok (P:=P) (w:=w) hsl hs
          split at he
          · cases he
          · cases he
          · rename_i hn0 hn2
            have hstr : ∀ q m,s=.str q m→size=1:=fun q m e=>by
              subst e
              rcases size with _ | _ | _
              · exact (hn0 q m rfl rfl).elim
              · rfl
              · exact (hn2 q m _ rfl rfl).elim
            have hnil:s=.nilslice→Nat.min sl dl=0:=fun e=>by
              subst e
              simp [lenOfK] at hsl
              subst hsl
              exact Nat.zero_min dl
            obtain ⟨arr,h1,h2,h3⟩:=first_ok (P:=P) r hcs hs hstr hnil
            have h1:=h1 w.drawn
            split at he
            · rename_i b off dlen dcap des dex
              simp only [RelV] at hd
              obtain ⟨c,N,cap',hr,rfl,_⟩:=hd
              have:dlen=dl:=by simpa [lenOfK] using hdl
              subst this
              split at he
              · rename_i h1' hst
                cases he
                obtain ⟨w',g1,g2,g3⟩:=storeCells_ok (P:=P) r hst hr h2
                refine ⟨goInt (Nat.min sl dlen),w',?_,g2,g3,by simp only [RelV];rfl⟩
                have h1'':(Builtin.firstCells size (Nat.min sl dlen) vs).run P w=.ok arr w:=h1
                simp only [Builtin.copy_]
                simp [run_underlying' hu,hlen,run_sizeOf' hsz,h1'',g1]
              · cases he
            · cases he
              simp only [RelV] at hd
              subst hd
              have:dl=0:=by simpa [lenOfK] using hdl.symm
              subst this
              refine ⟨goInt 0,w,?_,r,.refl _ _ _,by simp only [RelV];rfl⟩
              have h1'':(Builtin.firstCells size (Nat.min sl 0) vs).run P w=.ok arr w:=h1
              have hm:Nat.min sl 0=0:=Nat.min_zero sl
              rw [hm] at h1''
              simp only [Builtin.copy_]
              simp [run_underlying' hu,hlen,run_sizeOf' hsz,h1'']
            · cases he
      · cases he
theorem clear_ok (r:Rel w0 K ρ h nx w) {t ty:TypeId} {x:KV} {v:Value} {h':Heap} (he:clearK P h t x=some h') (hx:RelV ρ x v) :
    ∃ w',(Builtin.clear_ #[t] ty #[v]).run P w=.ok (.tuple #[]) w'∧Rel w0 K ρ h' nx w'∧Stp ρ h nx ρ h' nx:=by
  unfold clearK at he
  split at he
  · cases he
  · rename_i dsc hu
    split at he
    · cases he;simp only [RelV] at hx;subst hx
      exact ⟨w,by simp [Builtin.clear_,run_underlying' hu],r,.refl _ _ _⟩
    · cases he;simp only [RelV] at hx;subst hx
      exact ⟨w,by simp [Builtin.clear_,run_underlying' hu],r,.refl _ _ _⟩
    · cases he;simp only [RelV] at hx;obtain ⟨a,c,rfl⟩:=hx
      exact ⟨w,by simp [Builtin.clear_,run_underlying' hu],r,.refl _ _ _⟩
    · rename_i b
      simp only [RelV] at hx;obtain ⟨c,N,hr,rfl⟩:=hx
      split at he
      · rename_i es hb
        cases he
        obtain ⟨o',h1,⟨ents,clock,rfl,_⟩,_⟩:=r.img b _ c N hb hr
        refine ⟨{ w with heap:=w.heap.setIfInBounds c (.map #[] clock) },?_,r.set hb rfl hr ⟨#[],clock,rfl,⟨by simp,none,by simp⟩,[],by simp,by simp [RelE]⟩,Stp.set hr⟩
        simp [Builtin.clear_,run_underlying' hu,getObj,setObj,Sem.run,h1]
      · cases he
    · rename_i b off n cap es ex
      simp only [RelV] at hx;obtain ⟨c,N,cap',hr,rfl,_⟩:=hx
      split at he
      · rename_i el
        split at he
        · cases he
          exact ⟨w,by simp [Builtin.clear_,run_underlying' hu],r,.refl _ _ _⟩
        · split at he
          · rename_i s z hs hz
            split at he
            · rename_i hse hzl
              have hzl:=Nat.eq_of_beq_eq_true hzl
              rw [nlen_eq] at hzl
              obtain ⟨vz,g1,g2⟩:=zero_all hz
              obtain ⟨w',q1,q2,q3⟩:=storeCells_ok (P:=P) r he hr (zeroCells_rel (ρ:=ρ) (g2 ρ).cells _)
              exact ⟨w',by simp [Builtin.clear_,run_underlying' hu,g1,q1],q2,q3⟩
            · cases he
          · cases he
      · cases he
    · cases he
end
end Go.Ev
namespace Go.Ev
noncomputable def optEval (tm:PT KV):Option Operand→Option (Option KV)
  | none=>some none
  | some x=>match evalK tm x with
    | some v=>some (some v)
    | none=>none
def onlyFn (fn:Fn):Bool :=
  match fn with
  | .func _=>true
  | _=>false
section
variable (P:Program)
noncomputable def pureK (tm:PT KV) (h:Heap) (o:Op):Option KV :=
  match o with
  | .move x=>evalK tm x
  | .assign x=>evalK tm x
  | .pick c a b=>match evalK tm c with
    | some (.bool true)=>evalK tm a
    | some (.bool false)=>evalK tm b
    | _=>none
  | .build t parts=>match evalParts tm parts.toList with
    | some ps=>buildK P t ps
    | none=>none
  | .load t a=>match evalK tm a with
    | some p=>loadK P h t p
    | none=>none
  | .nilCheck x=>match evalK tm x with
    | some .nilptr=>none
    | some .niliface=>none
    | some .nilfunc=>none
    | some (.func fn a b)=>match fn with
      | .func g=>some (.func (.func g) a b)
      | .yield g=>some (.func (.yield g) a b)
      | _=>none
    | some v=>some v
    | none=>none
  | .binOp op t x y _=>match evalK tm x,evalK tm y with
    | some a,some b=>binK P h op t x y a b
    | _,_=>none
  | .unOp op _ x=>match evalK tm x with
    | some a=>unK op a
    | none=>none
  | .convert s d x=>match evalK tm x with
    | some a=>convK P h s d a
    | none=>none
  | .makeInterface t x=>match evalK tm x with
    | some v=>makeInterfaceK P t v
    | none=>none
  | .makeFunc fn first captured=>match onlyFn fn with
    | true=>match evalsK tm first.toList,evalsK tm captured.toList with
      | some a,some b=>some (.func fn a b)
      | _,_=>none
    | false=>none
  | .slice t x lo hi mx=>match evalK tm x,optEval tm lo,optEval tm hi,optEval tm mx with
    | some v,some a,some b,some c=>sliceK P t v a b c
    | _,_,_,_=>none
  | .fieldAddr s x f=>match evalK tm x with
    | some v=>fieldAddrK P s f v
    | none=>none
  | .field t x f=>match evalK tm x with
    | some v=>fieldK P t f v
    | none=>none
  | .indexAddr t x i=>match evalK tm x,evalK tm i with
    | some a,some b=>indexAddrK P t a b
    | _,_=>none
  | .index t x i=>match evalK tm x,evalK tm i with
    | some a,some b=>indexK P t a b
    | _,_=>none
  | .lookup t x i ok=>match evalK tm x,evalK tm i with
    | some m,some k=>lookupK P h t m k ok
    | _,_=>none
  | .typeAssert x _ t ok=>match evalK tm x with
    | some v=>typeAssertK P v t ok
    | none=>none
  | .extract t i=>match evalK tm t with
    | some v=>extractK v i
    | none=>none
  | .call c=>match c.callee with
    | .builtin b=>match evalsK tm c.args.toList with
      | none=>none
      | some args=>match b with
        | .len=>match lget c.argTypes.toList 0,lget args 0 with
          | some t,some x=>match lenK P h t x with
            | some n=>some (.int .i64 (.ofNat n))
            | none=>none
          | _,_=>none
        | .cap=>match lget c.argTypes.toList 0,lget args 0 with
          | some t,some x=>capK P t x
          | _,_=>none
        | .min=>match args with
          | a :: r=>foldK min2K a r
          | []=>none
        | .max=>match args with
          | a :: r=>foldK max2K a r
          | []=>none
        | _=>none
    | _=>none
  | _=>none
variable {P}
variable {w0:World} {K:Nat→Prop} {ρ:Ren} {h:Heap} {nx:Nat} {w:World}
theorem optEval_ok {tm:PT KV} {ev:Operand→Value} {x:Option Operand} {k:Option KV} (h:optEval tm x=some k) (hx : ∀ y,x=some y → ∀ k,evalK tm y=some k→RelV ρ k (ev y)):RelOpt ρ k (x.map ev):=by
  cases x with
  | none=>simp [optEval] at h;subst h;trivial
  | some y =>
    simp only [optEval] at h
    split at h
    · rename_i v hv
      cases h
      exact hx y rfl v hv
    · cases h
theorem lget0 {l:List KV} {vs:List Value} {x:KV} (hr:RelVs ρ l vs) (h:lget l 0=some x) : ∃ v,vs[0]?=some v∧RelV ρ x v:=by
  rw [lget_eq] at h
  exact hr.get 0 x h
set_option maxHeartbeats 1000000 in
theorem pure_ok (r:Rel w0 K ρ h nx w) {tm:PT KV} {ev:Operand→Value} {o:Oper} {k:KV} (he:pureK P tm h o.op=some k) (hx:RelX ρ tm ev o.op.operands.toList) :
    ∃ v,(execOp ev o).run P w=.ok (.value v) w∧RelV ρ k v:=by
  have lift : ∀ {s:Sem Value},(∃ u,s.run P w=.ok u w∧RelV ρ k u)→(execOp ev o=do pure (.value (← s))) → ∃ v,(execOp ev o).run P w=.ok (.value v) w∧RelV ρ k v:=by
    rintro s ⟨u,h1,h2⟩ heq
    exact ⟨u,by rw [heq];simp [h1],h2⟩
  obtain ⟨dst,op,type,pos,after,guard⟩:=o
  simp only at he hx
  unfold pureK at he
  split at he
  · rename_i x
    exact ⟨ev x,rfl,hx x (by simp [Op.operands]) k he⟩
  · rename_i x
    exact ⟨ev x,rfl,hx x (by simp [Op.operands]) k he⟩
  · rename_i c a b
    split at he
    · rename_i hc
      have:=hx c (by simp [Op.operands]) _ hc
      simp only [RelV] at this
      exact ⟨ev a,by simp [execOp,this,asBool],hx a (by simp [Op.operands]) k he⟩
    · rename_i hc
      have:=hx c (by simp [Op.operands]) _ hc
      simp only [RelV] at this
      exact ⟨ev b,by simp [execOp,this,asBool],hx b (by simp [Op.operands]) k he⟩
    · cases he
  · rename_i t parts
    split at he
    · rename_i ps hps
      have hp:=evalParts_rel (ρ:=ρ) (tm:=tm) (ev:=ev) (l:=parts.toList) (fun x hx'=>hx x (by simp only [Op.operands];simpa using hx')) hps
      have hp':RelP ρ ps (parts.map fun (i,x)=>(i,ev x)).toList:=by rw [Array.toList_map];exact hp
      exact lift (build_ok he hp') rfl
    · cases he
  · rename_i t a
    split at he
    · rename_i p hp
      exact lift (load_ok r he (hx a (by simp [Op.operands]) p hp)) rfl
    · cases he
  · rename_i x
    split at he
    · cases he
    · cases he
    · cases he
    · rename_i fn a b hv
      have hr:=hx x (by simp [Op.operands]) _ hv
      split at he
      · cases he
        refine ⟨ev x,?_,hr⟩
        simp only [RelV] at hr
        obtain ⟨fn',fs',cs',h1,h2,_⟩:=hr
        simp only [RelFn] at h1
        subst h1
        simp [execOp,h2]
      · cases he
        refine ⟨ev x,?_,hr⟩
        simp only [RelV] at hr
        obtain ⟨fn',fs',cs',h1,h2,_⟩:=hr
        simp only [RelFn] at h1
        obtain ⟨c,N,_,rfl⟩:=h1
        simp [execOp,h2]
      · cases he
    · rename_i v hn1 hn2 hn3 hn4 hv
      cases he
      have hr:=hx x (by simp [Op.operands]) _ hv
      refine ⟨ev x,?_,hr⟩
      cases k <;> first
        | exact absurd rfl hn1
        | exact absurd rfl hn2
        | exact absurd rfl hn3
        | exact (hn4 _ _ _ rfl).elim
        | skip
      all_goals simp only [RelV] at hr
      case int | bool | nilslice | nilmap=>simp [execOp,hr]
      case str=>simp [execOp,hr.2]
      case ptr=>obtain ⟨_,_,_,hr⟩:=hr;simp [execOp,hr]
      case slice=>obtain ⟨_,_,_,_,hr,_⟩:=hr;simp [execOp,hr]
      case eslice=>obtain ⟨_,_,hr⟩:=hr;simp [execOp,hr]
      case map=>obtain ⟨_,_,_,hr⟩:=hr;simp [execOp,hr]
      case iface=>obtain ⟨_,hr,_⟩:=hr;simp [execOp,hr]
      case agg=>obtain ⟨_,hr,_⟩:=hr;simp [execOp,hr]
      case tuple=>obtain ⟨_,hr,_⟩:=hr;simp [execOp,hr]
    · cases he
  · rename_i op t x y yt
    split at he
    · rename_i a b ha hb
      exact lift (binK_ok r he (hx x (by simp [Op.operands]) a ha) (hx y (by simp [Op.operands]) b hb)) rfl
    · cases he
  · rename_i op t x
    split at he
    · rename_i a ha
      exact lift (unK_ok he (hx x (by simp [Op.operands]) a ha)) rfl
    · cases he
  · rename_i s d x
    split at he
    · rename_i a ha
      exact lift (conv_ok r he (hx x (by simp [Op.operands]) a ha)) rfl
    · cases he
  · rename_i t x
    split at he
    · rename_i a ha
      exact lift (makeInterface_ok he (hx x (by simp [Op.operands]) a ha)) rfl
    · cases he
  · rename_i fn first captured
    split at he
    · rename_i hfn
      split at he
      · rename_i a b ha hb
        cases he
        have h1:=evalsK_rel (ρ:=ρ) (ev:=ev) (fun y hy=>hx y (by simp [Op.operands];simp at hy;exact .inl hy)) ha
        have h2:=evalsK_rel (ρ:=ρ) (ev:=ev) (fun y hy=>hx y (by simp [Op.operands];simp at hy;exact .inr hy)) hb
        refine ⟨.func fn (first.map ev) (captured.map ev),rfl,?_⟩
        simp only [RelV]
        refine ⟨fn,_,_,?_,rfl,by simpa using h1,by simpa using h2⟩
        cases fn <;> simp [onlyFn] at hfn
        rfl
      · cases he
    · cases he
  · rename_i t x lo hi mx
    split at he
    · rename_i v a b c hv ha hb hc
      refine lift (slice_ok he (hx x (by simp [Op.operands]) v hv) (optEval_ok ha fun y hy=>hx y ?_) (optEval_ok hb fun y hy=>hx y ?_) (optEval_ok hc fun y hy=>hx y ?_)) rfl
      all_goals (subst hy;simp [Op.operands])
    · cases he
  · rename_i s x f
    split at he
    · rename_i v hv
      exact lift (fieldAddr_ok he (hx x (by simp [Op.operands]) v hv)) rfl
    · cases he
  · rename_i t x f
    split at he
    · rename_i v hv
      exact lift (field_ok he (hx x (by simp [Op.operands]) v hv)) rfl
    · cases he
  · rename_i t x i
    split at he
    · rename_i a b ha hb
      exact lift (indexAddr_ok he (hx x (by simp [Op.operands]) a ha) (hx i (by simp [Op.operands]) b hb)) rfl
    · cases he
  · rename_i t x i
    split at he
    · rename_i a b ha hb
      exact lift (index_ok he (hx x (by simp [Op.operands]) a ha) (hx i (by simp [Op.operands]) b hb)) rfl
    · cases he
  · rename_i t x i ok
    split at he
    · rename_i a b ha hb
      exact lift (lookup_ok r he (hx x (by simp [Op.operands]) a ha) (hx i (by simp [Op.operands]) b hb)) rfl
    · cases he
  · rename_i x xt t ok
    split at he
    · rename_i v hv
      exact lift (typeAssert_ok he (hx x (by simp [Op.operands]) v hv)) rfl
    · cases he
  · rename_i t i
    split at he
    · rename_i v hv
      exact lift (extract_ok he (hx t (by simp [Op.operands]) v hv)) rfl
    · cases he
  · rename_i c
    obtain ⟨callee,args,argTypes⟩:=c
    simp only at he
    split at he
    · rename_i b
      split at he
      · cases he
      · rename_i ks hks
        have hr:=evalsK_rel (ρ:=ρ) (ev:=ev) (fun y hy=>hx y (by simp [Op.operands,Call.operands];simpa using hy)) hks
        have hr':RelVs ρ ks (args.map ev).toList:=by simpa using hr
        split at he
        · split at he
          · rename_i t x ht hxx
            split at he
            · rename_i n hn
              cases he
              obtain ⟨v,hv,hrv⟩:=lget0 hr' hxx
              rw [lget_eq] at ht
              refine lift (s:=Builtin.len_ argTypes type (args.map ev)) ⟨goInt n,len_ok (P:=P) r (by simpa using ht) (by simpa using hv) hn hrv,by simp only [RelV];rfl⟩ rfl
            · cases he
          · cases he
        · split at he
          · rename_i t x ht hxx
            obtain ⟨v,hv,hrv⟩:=lget0 hr' hxx
            rw [lget_eq] at ht
            exact lift (cap_ok (P:=P) (ty:=type) (at':=argTypes) (args:=args.map ev) (by simpa using ht) (by simpa using hv) he hrv) rfl
          · cases he
        · split at he
          · rename_i a l
            simp only [RelVs] at hr
            obtain ⟨v,s,hs,h1,h2⟩:=hr
            obtain ⟨u,h3,h4⟩:=fold_ok (P:=P) (w:=w) (g:=Builtin.min2) (fun a b c=>min_ok a b c) he h1 h2
            refine lift (s:=Builtin.min_ argTypes type (args.map ev)) ⟨u,?_,h4⟩ rfl
            simp only [Builtin.min_,Array.toList_map,hs,h3]
          · cases he
        · split at he
          · rename_i a l
            simp only [RelVs] at hr
            obtain ⟨v,s,hs,h1,h2⟩:=hr
            obtain ⟨u,h3,h4⟩:=fold_ok (P:=P) (w:=w) (g:=Builtin.max2) (fun a b c=>max_ok a b c) he h1 h2
            refine lift (s:=Builtin.max_ argTypes type (args.map ev)) ⟨u,?_,h4⟩ rfl
            simp only [Builtin.max_,Array.toList_map,hs,h3]
          · cases he
        · cases he
    · cases he
  · cases he
end
end Go.Ev
namespace Go.Ev
section
variable (P:Program)
def strOkK (sT:TypeId) (x:KV):Bool :=
  match x with
  | .str _ _=>match sliceElem P sT with
    | some el=>match sizeOf' P el with
      | some 1=>true
      | _=>false
    | none=>false
  | _=>true
noncomputable def effK (tm:PT KV) (h:Heap) (nx:Nat) (o:Op):Option (Option KV × Heap × Nat) :=
  match o with
  | .store t a x=>match evalK tm a,evalK tm x with
    | some p,some v=>match storeK P h t p v with
      | some h'=>some (none,h',nx)
      | none=>none
    | _,_=>none
  | .mapUpdate t m k x=>match evalK tm m,evalK tm k,evalK tm x with
    | some m,some k,some v=>match mapUpdateK P h t m k v with
      | some h'=>some (none,h',nx)
      | none=>none
    | _,_,_=>none
  | .insert t m k x=>match evalK tm m,evalK tm k,evalK tm x with
    | some m,some k,some v=>match mapUpdateK P h t m k v with
      | some h'=>some (none,h',nx)
      | none=>none
    | _,_,_=>none
  | .call c=>match c.callee with
    | .builtin b=>match evalsK tm c.args.toList with
      | some [s,x]=>match b with
        | .append=>match c.argTypes.toList with
          | [sT,xT]=>match strOkK P sT x with
            | true=>match appendK P h nx sT xT s x with
              | some (v,h',nx')=>some (some v,h',nx')
              | none=>none
            | false=>none
          | _=>none
        | .copy=>match c.argTypes.toList with
          | [dT,_]=>match copyK P h dT s x with
            | some (v,h')=>some (some v,h',nx)
            | none=>none
          | _=>none
        | _=>none
      | some [x]=>match b with
        | .clear=>match c.argTypes.toList with
          | [t]=>match clearK P h t x with
            | some h'=>some (some U,h',nx)
            | none=>none
          | _=>none
        | _=>none
      | _=>none
    | _=>none
  | _=>none
variable {P}
variable {w0:World} {K:Nat→Prop} {ρ:Ren} {h:Heap} {nx:Nat} {w:World}
theorem relU {ρ:Ren} : RelV ρ U (.tuple #[]):=by simp only [U,RelV,RelVs];exact ⟨_,rfl,rfl⟩
def Does (P:Program) (w0:World) (K:Nat→Prop) (ρ:Ren) (h:Heap) (nx:Nat) (w:World) (s:Sem Next) (v:Option KV) (h':Heap) (nx':Nat):Prop :=
  ∃ w' ρ',Rel w0 K ρ' h' nx' w'∧Stp ρ h nx ρ' h' nx' ∧
    match v with
    | some k => ∃ u,s.run P w=.ok (.value u) w'∧RelV ρ' k u
    | none=>s.run P w=.ok .skip w'
theorem two_args {tm:PT KV} {ev:Operand→Value} {args:Array Operand} {s x:KV} (hx : ∀ y ∈ args.toList,∀ k,evalK tm y=some k→RelV ρ k (ev y)) (h:evalsK tm args.toList=some [s,x]) :
    ∃ vs vx,args.map ev=#[vs,vx]∧RelV ρ s vs∧RelV ρ x vx:=by
  have hr:=evalsK_rel (ρ:=ρ) (ev:=ev) hx h
  simp only [RelVs] at hr
  obtain ⟨vs,l,h1,h2,vx,l2,rfl,h4,rfl⟩:=hr
  refine ⟨vs,vx,?_,h2,h4⟩
  apply Array.ext'
  rw [Array.toList_map,h1]
theorem one_arg {tm:PT KV} {ev:Operand→Value} {args:Array Operand} {x:KV} (hx : ∀ y ∈ args.toList,∀ k,evalK tm y=some k→RelV ρ k (ev y)) (h:evalsK tm args.toList=some [x]) :
    ∃ vx,args.map ev=#[vx]∧RelV ρ x vx:=by
  have hr:=evalsK_rel (ρ:=ρ) (ev:=ev) hx h
  simp only [RelVs] at hr
  obtain ⟨vx,l,h1,h2,rfl⟩:=hr
  refine ⟨vx,?_,h2⟩
  apply Array.ext'
  rw [Array.toList_map,h1]
theorem types_of {a:Array TypeId} {l:List TypeId} (h:a.toList=l):a=l.toArray:=by
  apply Array.ext';rw [h]
theorem eff_ok (r:Rel w0 K ρ h nx w) {tm:PT KV} {ev:Operand→Value} {o:Oper} {v:Option KV} {h':Heap} {nx':Nat} (he:effK P tm h nx o.op=some (v,h',nx')) (hx:RelX ρ tm ev o.op.operands.toList) :
    Does P w0 K ρ h nx w (execOp ev o) v h' nx':=by
  obtain ⟨dst,op,type,pos,after,guard⟩:=o
  simp only at he hx
  unfold effK at he
  split at he
  · rename_i t a x
    split at he
    · rename_i p q hp hq
      split at he
      · rename_i h1 hst
        cases he
        obtain ⟨w',g1,g2,g3⟩:=store_ok (P:=P) r hst (hx a (by simp [Op.operands]) p hp) (hx x (by simp [Op.operands]) q hq)
        exact ⟨w',ρ,g2,g3,by simp [execOp,g1]⟩
      · cases he
    · cases he
  · rename_i t m k x
    split at he
    · rename_i m' k' v' hm hk hv
      split at he
      · rename_i h1 hst
        cases he
        obtain ⟨w',g1,g2,g3⟩:=mapUpdate_ok (P:=P) r hst (hx m (by simp [Op.operands]) _ hm) (hx k (by simp [Op.operands]) _ hk) (hx x (by simp [Op.operands]) _ hv)
        exact ⟨w',ρ,g2,g3,by simp [execOp,g1]⟩
      · cases he
    · cases he
  · rename_i t m k x
    split at he
    · rename_i m' k' v' hm hk hv
      split at he
      · rename_i h1 hst
        cases he
        obtain ⟨w',g1,g2,g3⟩:=mapUpdate_ok (P:=P) r hst (hx m (by simp [Op.operands]) _ hm) (hx k (by simp [Op.operands]) _ hk) (hx x (by simp [Op.operands]) _ hv)
        exact ⟨w',ρ,g2,g3,by simp [execOp,g1]⟩
      · cases he
    · cases he
  · rename_i c
    obtain ⟨callee,args,argTypes⟩:=c
    simp only at he
    have hxa : ∀ y ∈ args.toList,∀ k,evalK tm y=some k→RelV ρ k (ev y):=fun y hy=>hx y (by
      simp only [Op.operands,Call.operands]
      have:y ∈ args:=by simpa using hy
      simp [this])
    split at he
    · rename_i b
      split at he
      · rename_i s x hargs
        obtain ⟨vs,vx,hmap,hs,hxx⟩:=two_args hxa hargs
        split at he
        · split at he
          · rename_i sT xT hty
            split at he
            · rename_i hstr
              split at he
              · rename_i v1 h1 nx1 happ
                cases he
                have hsz : ∀ q m el size,x=.str q m→sliceElem P sT=some el→sizeOf' P el=some size→size=1:=fun q m el size e1 e2 e3=>by
                  subst e1
                  simp only [strOkK,e2,e3] at hstr
                  split at hstr
                  · cases ‹some size=some 1›;rfl
                  · cases hstr
                obtain ⟨u,w',ρ',g1,g2,g3,g4⟩:=append_ok (P:=P) (ty:=type) r happ hs hxx hsz
                refine ⟨w',ρ',g2,g3,u,?_,g4⟩
                have:=types_of hty
                subst this
                simp [execOp,resolve,invoke,builtin,hmap,g1]
              · cases he
            · cases he
          · cases he
        · split at he
          · rename_i dT sT hty
            split at he
            · rename_i v1 h1 hcp
              cases he
              obtain ⟨u,w',g1,g2,g3,g4⟩:=copy_ok (P:=P) (sT:=sT) (ty:=type) r hcp hs hxx
              refine ⟨w',ρ,g2,g3,u,?_,g4⟩
              have:=types_of hty
              subst this
              simp [execOp,resolve,invoke,builtin,hmap,g1]
            · cases he
          · cases he
        · cases he
      · rename_i x hargs
        obtain ⟨vx,hmap,hxx⟩:=one_arg hxa hargs
        split at he
        · split at he
          · rename_i t hty
            split at he
            · rename_i h1 hcl
              cases he
              obtain ⟨w',g1,g2,g3⟩:=clear_ok (P:=P) (ty:=type) r hcl hxx
              refine ⟨w',ρ,g2,g3,.tuple #[],?_,relU⟩
              have:=types_of hty
              subst this
              simp [execOp,resolve,invoke,builtin,hmap,g1]
            · cases he
          · cases he
        · cases he
      · cases he
    · cases he
  · cases he
theorem new_ok (_r:Rel w0 K ρ h nx w) {tm:PT KV} {ev:Operand→Value} {o:Oper} {ob:KObj} {mk:Nat→KV} (he:allocK P tm o.op=some (ob,mk)) (hx:RelX ρ tm ev o.op.operands.toList) :
    ∃ o' N u d,(execOp ev o).run P w=.ok (.value u) { w with heap:=w.heap.push o',drawn:=d } ∧ RelO ρ N ob o' ∧ ∀ (ρ':Ren) b,ρ' b=some (w.heap.size,N)→RelV ρ' (mk b) u:=by
  obtain ⟨dst,op,type,pos,after,guard⟩:=o
  simp only at he hx
  have lift : ∀ {s:Sem Value},Makes P ρ w s ob mk→(execOp ev ⟨dst,op,type,pos,after,guard⟩=do pure (.value (← s))) →
      ∃ o' N u d,(execOp ev ⟨dst,op,type,pos,after,guard⟩).run P w=.ok (.value u) { w with heap:=w.heap.push o',drawn:=d } ∧ RelO ρ N ob o' ∧ ∀ (ρ':Ren) b,ρ' b=some (w.heap.size,N)→RelV ρ' (mk b) u:=by
    rintro s ⟨o',N,u,d,h1,h2⟩ heq
    exact ⟨o',N,u,d,by rw [heq];simp [h1],h2⟩
  rcases alloc_ok (P:=P) (w:=w) (ρ:=ρ) (ev:=ev) he hx with ⟨t,rfl,hm⟩ | ⟨t,x,rfl,hm⟩ | ⟨t,len,parts,rfl,hm⟩ | ⟨t,rfl,hm⟩ | ⟨t,l,c,rfl,hm⟩ | ⟨s,d,x,rfl,hm⟩
  all_goals exact lift hm rfl
end
end Go.Ev
namespace Go.Ev
def fr (b:Frame) (a:Act) (todo:List Item):Frame:={ b with tmps:=a.tmps,defers:=a.defers,todo,mode:=.run }
theorem fr_eval (b:Frame) (a:Act) (todo:List Item):(fr b a todo).eval=a.eval:=by
  funext x;cases x <;> rfl
section
variable {P:Program} {b:Frame} {a:Act} {k:List Item} {cs:List Frame} {w:World}
theorem st_skip:step P (lone (fr b a (.code .skip :: k)) cs w)=.next (lone (fr b a k) cs w) :=
  step_lone_go (by simp [stepG,stepG.exec,fr])
theorem st_label {l:Nat} : step P (lone (fr b a (.code (.label l) :: k)) cs w)=.next (lone (fr b a k) cs w) :=
  step_lone_go (by simp [stepG,stepG.exec,fr])
theorem st_inBlock {id:Nat} : step P (lone (fr b a (.inBlock id :: k)) cs w)=.next (lone (fr b a k) cs w) :=
  step_lone_go (by simp [stepG,stepG.exec,fr])
theorem st_inScope {c:Code} : step P (lone (fr b a (.inScope c :: k)) cs w)=.next (lone (fr b a k) cs w) :=
  step_lone_go (by simp [stepG,stepG.exec,fr])
theorem st_seq {x y:Code} : step P (lone (fr b a (.code (.seq x y) :: k)) cs w)=.next (lone (fr b a (.code x :: .code y :: k)) cs w) :=
  step_lone_go (by simp [stepG,stepG.exec,fr])
theorem st_cond {c:Operand} {x y:Code} {t:Bool} (h:a.eval c=.bool t):step P (lone (fr b a (.code (.cond c x y) :: k)) cs w)=.next (lone (fr b a (.code (if t then x else y) :: k)) cs w) :=
  step_lone_go (by
    have:=congrFun (fr_eval b a (.code (.cond c x y) :: k)) c
    simp only [fr] at this
    simp [stepG,stepG.exec,fr,this,h])
theorem st_block {id:Nat} {c:Code} : step P (lone (fr b a (.code (.block id c) :: k)) cs w)=.next (lone (fr b a (.code c :: .inBlock id :: k)) cs w) :=
  step_lone_go (by simp [stepG,stepG.exec,fr])
theorem st_scope {c:Code} : step P (lone (fr b a (.code (.scope c) :: k)) cs w)=.next (lone (fr b a (.code c :: .inScope c :: k)) cs w) :=
  step_lone_go (by simp [stepG,stepG.exec,fr])
theorem st_loop {c:Code} : step P (lone (fr b a (.code (.loop c) :: k)) cs w)=.next (lone (fr b a (.code c :: .inLoop c :: k)) cs w) :=
  step_lone_go (by simp [stepG,stepG.exec,fr])
theorem st_inLoop {c:Code} : step P (lone (fr b a (.inLoop c :: k)) cs w)=.next (lone (fr b a (.code c :: .inLoop c :: k)) cs w) :=
  step_lone_go (by simp [stepG,stepG.exec,fr])
theorem st_exit {id:Nat} {k':List Item} (h:exitTo id k=some k'):step P (lone (fr b a (.code (.exit id) :: k)) cs w)=.next (lone (fr b a k') cs w) :=
  step_lone_go (by simp [stepG,stepG.exec,fr,h])
theorem st_region {id:Nat} {ops:Array Oper} : step P (lone (fr b a (.code (.region id ops false) :: k)) cs w)=.next (lone (fr b a (.inRegion ops (List.range ops.size) :: k)) cs w) :=
  step_lone_go (by simp [stepG,stepG.exec,fr])
theorem st_region_draw {id:Nat} {ops:Array Oper} :
    step P (lone (fr b a (.code (.region id ops true) :: k)) cs w) =
      .next (lone (fr b a (.inRegion ops (Region.schedule (P.follows .mixedOrders) ops (w.tape w.drawn (.order b.fn id))) :: k)) cs { w with drawn:=w.drawn+1 }) :=
  step_lone_go (by simp [stepG,stepG.exec,fr,choose,Sem.run,Question.forced,Question.cut])
theorem st_region_end {ops:Array Oper} : step P (lone (fr b a (.inRegion ops [] :: k)) cs w)=.next (lone (fr b a k) cs w) :=
  step_lone_go (by simp [stepG,stepG.exec,fr])
theorem fr_finish (b:Frame) (a:Act) (ops:Array Oper) (i:Nat) (rest:List Nat) (k:List Item) (v:Value) :
    (fr b a (.inRegion ops (i :: rest) :: k)).finish v=fr b (a.put ((ops[i]?).bind (·.dst)) v) (.inRegion ops rest :: k):=by
  cases h:(ops[i]?).bind (·.dst) <;> simp [Frame.finish,fr,Act.put,h]
theorem st_op_skip {ops:Array Oper} {i:Nat} {rest:List Nat} (h:((ops[i]?).map (Region.wanted · (yielded ops a.tmps))).getD false=false) :
    step P (lone (fr b a (.inRegion ops (i :: rest) :: k)) cs w)=.next (lone (fr b (a.put ((ops[i]?).bind (·.dst)) undef) (.inRegion ops rest :: k)) cs w):=by
  rw [← fr_finish]
  exact step_lone_go (by
    have h':=h
    simp only [fr] at *
    simp [stepG,stepG.exec,h'])
theorem stG_op {ops:Array Oper} {i:Nat} {rest:List Nat} {o:Oper} (ho:ops[i]?=some o) (hw:Region.wanted o (yielded ops a.tmps)=true) (hd:b.roundOf=none ∨ ∀ c,o.op≠.defer c) :
    stepG P true { frame:=fr b a (.inRegion ops (i :: rest) :: k),callers:=cs,status:=.running,dying:=none } w =
      stepG.apply P true (fr b a (.inRegion ops (i :: rest) :: k)) cs none (execOp a.eval o) w:=by
  have he:=fr_eval b a (.inRegion ops (i :: rest) :: k)
  simp only [fr] at he
  rcases hd with hd | hd
  · simp only [hd] at he
    simp [stepG,stepG.exec,stepG.oper,Frame.oper?,fr,ho,hw,he,hd]
  · cases hop:o.op <;> first
      | exact absurd hop (hd _)
      | (cases hr:b.roundOf <;> (simp only [hr] at he) <;> simp [stepG,stepG.exec,stepG.oper,Frame.oper?,fr,ho,hw,he,hr,hop])
theorem st_value {ops:Array Oper} {i:Nat} {rest:List Nat} {o:Oper} (ho:ops[i]?=some o) (hw:Region.wanted o (yielded ops a.tmps)=true) (hd:b.roundOf=none ∨ ∀ c,o.op≠.defer c)
    {v:Value} {w':World} (hr:(execOp a.eval o).run P w=.ok (.value v) w') :
    step P (lone (fr b a (.inRegion ops (i :: rest) :: k)) cs w)=.next (lone (fr b (a.put o.dst v) (.inRegion ops rest :: k)) cs w'):=by
  have hfin:=fr_finish b a ops i rest k v
  rw [ho] at hfin
  refine step_lone_go ?_
  rw [stG_op ho hw hd]
  simp only [stepG.apply,Sem.runT_eq,hr,GStep.bare_after]
  exact congrArg (fun fr=>GStep.go { frame:=fr,callers:=cs,status:=.running,dying:=none } w') hfin
theorem st_skipped {ops:Array Oper} {i:Nat} {rest:List Nat} {o:Oper} (ho:ops[i]?=some o) (hw:Region.wanted o (yielded ops a.tmps)=true) (hd:b.roundOf=none ∨ ∀ c,o.op≠.defer c)
    {w':World} (hr:(execOp a.eval o).run P w=.ok .skip w') :
    step P (lone (fr b a (.inRegion ops (i :: rest) :: k)) cs w)=.next (lone (fr b (a.put o.dst undef) (.inRegion ops rest :: k)) cs w'):=by
  have hfin:=fr_finish b a ops i rest k undef
  rw [ho] at hfin
  refine step_lone_go ?_
  rw [stG_op ho hw hd]
  simp only [stepG.apply,Sem.runT_eq,hr,GStep.bare_after]
  exact congrArg (fun fr=>GStep.go { frame:=fr,callers:=cs,status:=.running,dying:=none } w') hfin
theorem st_defer {ops:Array Oper} {i:Nat} {rest:List Nat} {o:Oper} (ho:ops[i]?=some o) (hw:Region.wanted o (yielded ops a.tmps)=true) (hd:b.roundOf=none)
    {d:Deferred} {w':World} (hr:(execOp a.eval o).run P w=.ok (.defer d) w') :
    step P (lone (fr b a (.inRegion ops (i :: rest) :: k)) cs w)=.next (lone (fr b (({ a with defers:=d :: a.defers } : Act).put o.dst undef) (.inRegion ops rest :: k)) cs w'):=by
  have hfin:=fr_finish b { a with defers:=d :: a.defers } ops i rest k undef
  rw [ho] at hfin
  refine step_lone_go ?_
  rw [stG_op ho hw (.inl hd)]
  simp only [stepG.apply,Sem.runT_eq,hr,GStep.bare_after]
  exact congrArg (fun fr=>GStep.go { frame:=fr,callers:=cs,status:=.running,dying:=none } w') hfin
theorem st_enter {ops:Array Oper} {i:Nat} {rest:List Nat} {o:Oper} (ho:ops[i]?=some o) (hw:Region.wanted o (yielded ops a.tmps)=true) (hd:b.roundOf=none ∨ ∀ c,o.op≠.defer c)
    {f:FuncId} {args:Array Value} {w':World} (hr:(execOp a.eval o).run P w=.ok (.enter f args) w') :
    step P (lone (fr b a (.inRegion ops (i :: rest) :: k)) cs w)=.next (lone (Frame.enter P f args .normal) (fr b a (.inRegion ops (i :: rest) :: k) :: cs) w'):=by
  refine step_lone_go ?_
  rw [stG_op ho hw hd]
  simp [stepG.apply,hr,fr]
theorem st_round {ops:Array Oper} {i:Nat} {rest:List Nat} {o:Oper} (ho:ops[i]?=some o) (hw:Region.wanted o (yielded ops a.tmps)=true) (hd:b.roundOf=none ∨ ∀ c,o.op≠.defer c)
    {l:Nat} {f:FuncId} {tmps:Array Value} {assign body:Code} {w':World} (hr:(execOp a.eval o).run P w=.ok (.round l f tmps assign body) w') :
    step P (lone (fr b a (.inRegion ops (i :: rest) :: k)) cs w)=.next (lone (Frame.round l f tmps assign body .normal) (fr b a (.inRegion ops (i :: rest) :: k) :: cs) w'):=by
  refine step_lone_go ?_
  rw [stG_op ho hw hd]
  simp [stepG.apply,hr]
theorem st_ret (hb:b.roundOf=none):step P (lone (fr b a (.code .ret :: k)) cs w)=.next (lone { fr b a (.code .ret :: k) with mode:=.returning } cs w) :=
  step_lone_go (by simp [stepG,stepG.exec,fr,hb])
theorem st_end (hb:b.roundOf=none):step P (lone (fr b a []) cs w)=.next (lone { fr b a [] with mode:=.returning } cs w) :=
  step_lone_go (by simp [stepG,stepG.exec,fr,hb])
end
inductive KExit where
  | normal | exit (id:Nat) | ret
def Arr (P:Program) (m:Machine) (b:Frame) (k:List Item) (cs:List Frame):KExit→Act→World→Prop
  | .normal,a,w=>Steps P m (lone (fr b a k) cs w)
  | .exit id,a,w => ∃ k2,Steps P m (lone (fr b a (.code (.exit id) :: k2)) cs w)∧exitTo id k2=exitTo id k
  | .ret,a,w => ∃ k2,Steps P m (lone (fr b a (.code .ret :: k2)) cs w)
theorem Arr.of_steps {P:Program} {m m₁:Machine} {b:Frame} {k:List Item} {cs:List Frame} {e:KExit} {a:Act} {w:World} (h:Steps P m m₁) (h':Arr P m₁ b k cs e a w):Arr P m b k cs e a w:=by
  cases e with
  | normal=>exact h.trans h'
  | exit id=>obtain ⟨k2,h1,h2⟩:=h';exact ⟨k2,h.trans h1,h2⟩
  | ret=>obtain ⟨k2,h1⟩:=h';exact ⟨k2,h.trans h1⟩
theorem Arr.pass {P:Program} {m:Machine} {b:Frame} {x:Item} {k:List Item} {cs:List Frame} {e:KExit} {a:Act} {w:World} (hx : ∀ id,exitTo id (x :: k)=exitTo id k) (he:e≠.normal)
    (h:Arr P m b (x :: k) cs e a w):Arr P m b k cs e a w:=by
  cases e with
  | normal=>exact absurd rfl he
  | exit id=>obtain ⟨k2,h1,h2⟩:=h;exact ⟨k2,h1,h2.trans (hx id)⟩
  | ret=>exact h
end Go.Ev
namespace Go.Ev
inductive OR where
  | fail
  | val (v:KV) (h:Heap) (nx:Nat)
  | skip (h:Heap) (nx:Nat)
  | call (f:FuncId) (args:List KV)
  | yield (l:Nat) (args:List KV)
  | defer (d:KDef)
  | recover
inductive CR where
  | fail
  | ok (v:KV) (h:Heap) (nx:Nat)
structure Env where
  P:Program
  X:FuncId→Nat
  ext:Heap→Nat→List KV→Option KV
noncomputable def otherK (E:Env) (tm:PT KV) (h:Heap) (nx:Nat) (o:Op):OR :=
  match o with
  | .call c=>match c.callee with
    | .value f=>match evalsK tm c.args.toList with
      | none=>.fail
      | some args=>match evalK tm f with
        | some (.func fn first captured)=>match fn with
          | .func g=>match E.X g with
            | 0=>.call g (first ++ args ++ captured)
            | kind=>match E.ext h kind (first ++ args ++ captured) with
              | some v=>.val v h nx
              | none=>.fail
          | .yield l=>.yield l (first ++ args)
          | _=>.fail
        | _=>.fail
    | .builtin b=>match b with
      | .recover=>.recover
      | _=>.fail
    | _=>.fail
  | .defer c=>match c.callee with
    | .value f=>match evalsK tm c.args.toList with
      | none=>.fail
      | some args=>match evalK tm f with
        | some (.func fn first captured)=>.defer (.call fn captured (first ++ args))
        | _=>.fail
    | _=>.fail
  | _=>.fail
noncomputable def opK (E:Env) (tm:PT KV) (h:Heap) (nx:Nat) (o:Op):OR :=
  match pureK E.P tm h o with
  | some v=>.val v h nx
  | none=>match allocK E.P tm o with
    | some (ob,mk)=>.val (mk nx) (h.put nx (some ob)) (Nat.succ nx)
    | none=>match effK E.P tm h nx o with
      | some (some v,h',nx')=>.val v h' nx'
      | some (none,h',nx')=>.skip h' nx'
      | none=>otherK E tm h nx o
def RelDf (ρ:Ren):KDef→Deferred→Prop
  | .collected b,d => ∃ c N,ρ b=some (c,N)∧d = { target:=.collected c,args:=#[] }
  | .call fn captured args,d => ∃ fn' cs' as',RelFn ρ fn fn'∧RelVs ρ captured cs'.toList∧RelVs ρ args as'.toList∧d = { target:=.fn fn' cs',args:=as' }
def RelDs (ρ:Ren):List KDef→List Deferred→Prop
  | [],l=>l=[]
  | k :: r,l => ∃ d s,l=d :: s∧RelDf ρ k d∧RelDs ρ r s
theorem RelDf.mono {ρ ρ':Ren} (hs:ρ.Sub ρ') {k:KDef} {d:Deferred} (h:RelDf ρ k d):RelDf ρ' k d:=by
  cases k with
  | collected b=>obtain ⟨c,N,h1,h2⟩:=h;exact ⟨c,N,hs _ _ h1,h2⟩
  | call fn captured args=>obtain ⟨fn',cs',as',h1,h2,h3,h4⟩:=h;exact ⟨fn',cs',as',h1.mono hs,RelVs.mono hs _ _ h2,RelVs.mono hs _ _ h3,h4⟩
theorem RelDs.mono {ρ ρ':Ren} (hs:ρ.Sub ρ') : ∀ {k:List KDef} {d:List Deferred},RelDs ρ k d→RelDs ρ' k d
  | [],_,h=>h
  | _ :: _,_,⟨d,s,h1,h2,h3⟩=>⟨d,s,h1,h2.mono hs,h3.mono hs⟩
def ExtOk (E:Env):Prop:=∀ (w0:World) (K:Nat→Prop) (ρ:Ren) (h:Heap) (nx:Nat) (w:World) (g:FuncId) (args:List KV) (vargs:Array Value) (v:KV),
  E.X g≠0→E.ext h (E.X g) args=some v→Rel w0 K ρ h nx w→RelVs ρ args vargs.toList → ∃ u,(callFunc g vargs).run E.P w=.ok (.value u) w∧RelV ρ v u
section
variable {E:Env}
variable {w0:World} {K:Nat→Prop} {ρ:Ren} {h:Heap} {nx:Nat} {w:World}
def Means (E:Env) (w0:World) (K:Nat→Prop) (ρ:Ren) (h:Heap) (nx:Nat) (w:World) (s:Sem Next):OR→Prop
  | .fail=>True
  | .val v h' nx'=>Does E.P w0 K ρ h nx w s (some v) h' nx'
  | .skip h' nx'=>Does E.P w0 K ρ h nx w s none h' nx'
  | .call f args => ∃ vargs:Array Value,RelVs ρ args vargs.toList∧s.run E.P w=(callFunc f vargs).run E.P w
  | .yield l args => ∃ c N,ρ l=some (c,N) ∧ ∃ vargs:Array Value,RelVs ρ args vargs.toList∧s.run E.P w=(Instr.yield c vargs).run E.P w
  | .defer d => ∃ d',RelDf ρ d d'∧s.run E.P w=.ok (.defer d') w
  | .recover=>s.run E.P w=.ok .recover w
theorem other_ok (hE:ExtOk E) (r:Rel w0 K ρ h nx w) {tm:PT KV} {ev:Operand→Value} {o:Oper} (hx:RelX ρ tm ev o.op.operands.toList) :
    Means E w0 K ρ h nx w (execOp ev o) (otherK E tm h nx o.op):=by
  obtain ⟨dst,op,type,pos,after,guard⟩:=o
  simp only at hx ⊢
  unfold otherK
  split
  · rename_i c
    obtain ⟨callee,args,argTypes⟩:=c
    simp only
    split
    · rename_i f
      have hxa : ∀ y ∈ args.toList,∀ k,evalK tm y=some k→RelV ρ k (ev y):=fun y hy=>hx y (by
        simp only [Op.operands,Call.operands]
        have:y ∈ args:=by simpa using hy
        simp [this])
      have hxf : ∀ k,evalK tm f=some k→RelV ρ k (ev f):=hx f (by simp [Op.operands,Call.operands])
      split
      · trivial
      · rename_i ks hks
        have hr:=evalsK_rel (ρ:=ρ) (ev:=ev) hxa hks
        split
        · rename_i fn first captured hf
          have hrf:=hxf _ hf
          simp only [RelV] at hrf
          obtain ⟨fn',fs',cs',h1,h2,h3,h4⟩:=hrf
          have hargs:RelVs ρ (first ++ ks) (fs' ++ args.map ev).toList:=by
            rw [Array.toList_append,Array.toList_map];exact h3.append hr
          split
          · rename_i g
            simp only [RelFn] at h1
            subst h1
            have hall:RelVs ρ (first ++ ks ++ captured) (fs' ++ args.map ev ++ cs').toList:=by
              rw [Array.toList_append];exact hargs.append h4
            have hrun:(execOp ev ⟨dst,.call ⟨.value f,args,argTypes⟩,type,pos,after,guard⟩).run E.P w=(callFunc g (fs' ++ args.map ev ++ cs')).run E.P w:=by
              simp [execOp,resolve,h2,Deferred.ofValue,invoke]
            split
            · exact ⟨_,hall,hrun⟩
            · rename_i hk
              split
              · rename_i v hv
                obtain ⟨u,q1,q2⟩:=hE w0 K ρ h nx w g _ _ v hk hv r hall
                exact ⟨w,ρ,r,.refl _ _ _,u,by rw [hrun];exact q1,q2⟩
              · trivial
          · rename_i l
            simp only [RelFn] at h1
            obtain ⟨c,N,hl,rfl⟩:=h1
            refine ⟨c,N,hl,fs' ++ args.map ev,hargs,?_⟩
            simp [execOp,resolve,h2,Deferred.ofValue,invoke]
          · trivial
        · trivial
    · split
      · show (execOp ev _).run E.P w=.ok .recover w
        simp [execOp,resolve,invoke,builtin]
      · trivial
    · trivial
  · rename_i c
    obtain ⟨callee,args,argTypes⟩:=c
    simp only
    split
    · rename_i f
      have hxa : ∀ y ∈ args.toList,∀ k,evalK tm y=some k→RelV ρ k (ev y):=fun y hy=>hx y (by
        simp only [Op.operands,Call.operands]
        have:y ∈ args:=by simpa using hy
        simp [this])
      have hxf : ∀ k,evalK tm f=some k→RelV ρ k (ev f):=hx f (by simp [Op.operands,Call.operands])
      split
      · trivial
      · rename_i ks hks
        have hr:=evalsK_rel (ρ:=ρ) (ev:=ev) hxa hks
        split
        · rename_i fn first captured hf
          have hrf:=hxf _ hf
          simp only [RelV] at hrf
          obtain ⟨fn',fs',cs',h1,h2,h3,h4⟩:=hrf
          refine ⟨{ target:=.fn fn' cs',args:=fs' ++ args.map ev },⟨fn',cs',fs' ++ args.map ev,h1,h4,by rw [Array.toList_append,Array.toList_map];exact h3.append hr,rfl⟩,?_⟩
          simp [execOp,resolve,h2,Deferred.ofValue]
        · trivial
    · trivial
  · trivial
theorem op_ok (hE:ExtOk E) (r:Rel w0 K ρ h nx w) {tm:PT KV} {ev:Operand→Value} {o:Oper} (hx:RelX ρ tm ev o.op.operands.toList) :
    Means E w0 K ρ h nx w (execOp ev o) (opK E tm h nx o.op):=by
  unfold opK
  split
  · rename_i v hv
    obtain ⟨u,h1,h2⟩:=pure_ok r hv hx
    exact ⟨w,ρ,r,.refl _ _ _,u,h1,h2⟩
  · split
    · rename_i ob mk hal
      obtain ⟨o',N,u,d,h1,h2,h3⟩:=new_ok (P:=E.P) r hal hx
      exact ⟨_,_,(r.drew d).new h2,Stp.new r _ _,u,h1,h3 _ nx (Ren.add_self _ _ _)⟩
    · split
      · rename_i v h' nx' hef;exact eff_ok r hef hx
      · rename_i h' nx' hef;exact eff_ok r hef hx
      · exact other_ok hE r hx
end
end Go.Ev
namespace Go.Ev
inductive SR where
  | fail
  | ok (tm:PT KV) (df:List KDef) (h:Heap) (nx:Nat)
noncomputable def tput (size:Nat) (tm:PT KV) (dst:Option Tmp) (v:KV):Option (PT KV) :=
  match dst with
  | some d=>match Nat.blt d size with
    | true=>some (tm.put d (some v))
    | false=>none
  | none=>some tm
noncomputable def wantedK (ops:List Oper) (o:Oper) (tm:PT KV):Option Bool :=
  match o.guard with
  | none=>some true
  | some (j,want)=>match lget ops j with
    | some p=>match p.dst with
      | some d=>match tm.get d with
        | some (.bool b)=>some (b == want)
        | some _=>some false
        | none=>none
      | none=>some false
    | none=>some false
abbrev CallF:=FuncId→List KV→Heap→Nat→CR
abbrev YieldF:=Nat→List KV→Heap→Nat→CR
noncomputable def doOp (E:Env) (call:CallF) (yield:YieldF) (round:Bool) (size:Nat) (o:Oper) (tm:PT KV) (df:List KDef) (h:Heap) (nx:Nat):SR :=
  match opK E tm h nx o.op with
  | .fail=>.fail
  | .val v h nx=>match tput size tm o.dst v with
    | some tm=>.ok tm df h nx
    | none=>.fail
  | .skip h nx=>match tput size tm o.dst U with
    | some tm=>.ok tm df h nx
    | none=>.fail
  | .defer d=>match round with
    | true=>.fail
    | false=>match tput size tm o.dst U with
      | some tm=>.ok tm (d :: df) h nx
      | none=>.fail
  | .recover=>match round with
    | true=>.fail
    | false=>match tput size tm o.dst .niliface with
      | some tm=>.ok tm df h nx
      | none=>.fail
  | .call f args=>match call f args h nx with
    | .ok v h nx=>match tput size tm o.dst v with
      | some tm=>.ok tm df h nx
      | none=>.fail
    | .fail=>.fail
  | .yield l args=>match yield l args h nx with
    | .ok v h nx=>match tput size tm o.dst v with
      | some tm=>.ok tm df h nx
      | none=>.fail
    | .fail=>.fail
noncomputable def doOps (E:Env) (call:CallF) (yield:YieldF) (round:Bool) (size:Nat) (all:List Oper):List Oper→PT KV→List KDef→Heap→Nat→SR
  | [],tm,df,h,nx=>.ok tm df h nx
  | o :: r,tm,df,h,nx=>match wantedK all o tm with
    | none=>.fail
    | some false=>match tput size tm o.dst U with
      | some tm=>doOps E call yield round size all r tm df h nx
      | none=>.fail
    | some true=>match doOp E call yield round size o tm df h nx with
      | .fail=>.fail
      | .ok tm df h nx=>doOps E call yield round size all r tm df h nx
def Fin (P:Program) (f:FuncId) (kind:CallKind) (fin:Frame) (w:World) (v:Value):Prop :=
  fin.fn=f∧fin.mode=.returning∧fin.defers=[]∧fin.kind=kind ∧ ∃ fn,P.funcs[f]?=some fn∧fn.body.isSome=true∧(results fn fin.tmps).run P w=.ok v w
def CalmAt (kind:CallKind) (cs:List Frame):Prop:=kind=.normal∨(kind=.deferred ∧ ∃ c rest,cs=c :: rest∧c.mode=.returning)
def CallOk (E:Env) (call:CallF):Prop:=∀ f args h nx v h' nx',call f args h nx=.ok v h' nx' →
  (∃ fn,E.P.funcs[f]?=some fn∧fn.body.isSome=true) ∧
  ∀ (w0:World) (K:Nat→Prop) (ρ:Ren) (w:World) (vargs:Array Value),Rel w0 K ρ h nx w→RelVs ρ args vargs.toList →
  ∀ kind cs,CalmAt kind cs → ∃ fin w' ρ' v',Steps E.P (lone (Frame.enter E.P f vargs kind) cs w) (lone fin cs w')∧Fin E.P f kind fin w' v'∧Rel w0 K ρ' h' nx' w'∧Stp ρ h nx ρ' h' nx'∧RelV ρ' v v'
def YieldOk (E:Env) (yield:YieldF):Prop:=∀ l args h nx v h' nx',yield l args h nx=.ok v h' nx' →
  ∀ (w0:World) (K:Nat→Prop) (ρ:Ren) (w:World) (vargs:Array Value) (c N:Nat),Rel w0 K ρ h nx w→ρ l=some (c,N)→RelVs ρ args vargs.toList →
  ∃ f tmps assign body,(Instr.yield c vargs).run E.P w=.ok (.round c f tmps assign body) w ∧
  ∀ (fr:Frame) cs,∃ w' ρ' v',Steps E.P (lone (Frame.round c f tmps assign body .normal) (fr :: cs) w) (lone (fr.finish v') cs w')∧Rel w0 K ρ' h' nx' w'∧Stp ρ h nx ρ' h' nx'∧RelV ρ' v v'
def NamesOk (P : Program) : Prop := ∀ (f : FuncId) (fn : Func), P.funcs[f]? = some fn → fn.body.isSome = true → (fn.name == "runtime.NumGoroutine") = false
section
variable {E:Env}
variable {w0:World} {K:Nat→Prop}
structure Mid (E:Env) (w0:World) (K:Nat→Prop) (ρ:Ren) (size:Nat) (tm:PT KV) (df:List KDef) (h:Heap) (nx:Nat) (a:Act) (w:World):Prop where
  rel:Rel w0 K ρ h nx w
  tms:RelT ρ tm a.tmps
  dfs:RelDs ρ df a.defers
  size:a.tmps.size=size
theorem Mid.ops {ρ:Ren} {size:Nat} {tm:PT KV} {df:List KDef} {h:Heap} {nx:Nat} {a:Act} {w:World} (m:Mid E w0 K ρ size tm df h nx a w) (l:List Operand):RelX ρ tm a.eval l:=by
  intro x _ k hk
  cases x with
  | tmp t =>
    obtain ⟨v,h1,h2⟩:=m.tms t k hk
    have:a.eval (.tmp t)=v:=by simp [Act.eval,h1]
    rw [this];exact h2
  | const v=>exact ofVal_rel hk
  | global g =>
    simp only [evalK] at hk
    split at hk
    · rename_i hg
      cases hk
      obtain ⟨N,h1⟩:=m.rel.glob g (by simpa [Nat.blt_eq] using hg)
      simp only [RelV]
      exact ⟨g,N,h1,rfl⟩
    · cases hk
  | func f =>
    simp only [evalK,Option.some.injEq] at hk
    subst hk
    simp only [Act.eval,RelV,RelVs]
    exact ⟨_,_,_,rfl,rfl,by simp,by simp⟩
end
end Go.Ev
namespace Go.Ev
section
variable {E:Env}
variable {w0:World} {K:Nat→Prop} {ρ:Ren} {size:Nat} {tm tm':PT KV} {df df':List KDef} {h h':Heap} {nx nx':Nat} {a:Act} {w:World}
theorem RelT.put {ρ:Ren} {tm tm':PT KV} {tmps:Array Value} {size:Nat} {dst:Option Tmp} {k:KV} {v:Value} (ht:RelT ρ tm tmps) (hs:tmps.size=size) (hp:tput size tm dst k=some tm') (hv:RelV ρ k v) (df:List Deferred) :
    RelT ρ tm' (({ tmps,defers:=df } : Act).put dst v).tmps∧(({ tmps,defers:=df } : Act).put dst v).tmps.size=size∧(({ tmps,defers:=df } : Act).put dst v).defers=df:=by
  unfold tput at hp
  split at hp
  · rename_i d
    split at hp
    · rename_i hlt
      have hlt:d<size:=by simpa [Nat.blt_eq] using hlt
      cases hp
      refine ⟨fun t q hq => ?_,by simpa [Act.put] using hs,rfl⟩
      rw [PT.get_put] at hq
      by_cases htd:t=d
      · subst htd
        rw [if_pos rfl] at hq
        cases hq
        exact ⟨v,by simp [Act.put,hs,hlt],hv⟩
      · rw [if_neg htd] at hq
        obtain ⟨u,h1,h2⟩:=ht t q hq
        exact ⟨u,by simp only [Act.put];rw [Array.getElem?_setIfInBounds_ne (fun e=>htd e.symm)];exact h1,h2⟩
    · cases hp
  · cases hp
    exact ⟨ht,hs,rfl⟩
theorem Mid.put (m:Mid E w0 K ρ size tm df h nx a w) {dst:Option Tmp} {k:KV} {v:Value} (hp:tput size tm dst k=some tm') (hv:RelV ρ k v):Mid E w0 K ρ size tm' df h nx (a.put dst v) w:=by
  obtain ⟨h1,h2,h3⟩:=RelT.put m.tms m.size hp hv a.defers
  exact ⟨m.rel,h1,by rw [show (a.put dst v).defers=a.defers from h3];exact m.dfs,h2⟩
theorem Mid.go (m:Mid E w0 K ρ size tm df h nx a w) {ρ':Ren} {w':World} (hr:Rel w0 K ρ' h' nx' w') (hs:Stp ρ h nx ρ' h' nx'):Mid E w0 K ρ' size tm df h' nx' a w' :=
  ⟨hr,m.tms.mono hs.sub,m.dfs.mono hs.sub,m.size⟩
theorem wanted_ok {ops:Array Oper} {o:Oper} {q:Bool} (hw:wantedK ops.toList o tm=some q) (ht:RelT ρ tm a.tmps):Region.wanted o (yielded ops a.tmps)=q:=by
  unfold wantedK at hw
  unfold Region.wanted
  split at hw
  · rename_i hg;cases hw;rw [hg]
  · rename_i j want hg
    rw [hg]
    simp only
    split at hw
    · rename_i p hp
      rw [lget_eq] at hp
      have hp':ops[j]?=some p:=by simpa using hp
      split at hw
      · rename_i d hd
        split at hw
        · rename_i b hb
          obtain ⟨v,h1,h2⟩:=ht d _ hb
          simp only [RelV] at h2
          subst h2
          cases hw
          simp [yielded,hp',hd,h1]
        · rename_i k hnb hk
          obtain ⟨v,h1,h2⟩:=ht d _ hk
          cases hw
          have hnot : ∀ b,v≠.bool b:=fun b e=>by
            subst e
            cases k <;> simp [RelV] at h2
            exact hnb _ rfl
          have:yielded ops a.tmps j=none:=by
            simp only [yielded,hp',Option.bind_some,hd,h1]
            split
            · rename_i heq;cases heq;exact absurd rfl (hnot _)
            · rfl
          rw [this];rfl
        · cases hw
      · rename_i hd
        cases hw
        simp [yielded,hp',hd]
    · rename_i hp
      rw [lget_eq] at hp
      have hp':ops[j]?=none:=by simpa using hp
      cases hw
      simp [yielded,hp']
structure FrOk (b:Frame) (cs:List Frame) (round:Bool):Prop where
  round:b.roundOf.isSome=round
  calm:CalmAt b.kind cs
theorem callFunc_enter {P:Program} (hN:NamesOk P) {f:FuncId} {fn:Func} (hf:P.funcs[f]?=some fn) (hb:fn.body.isSome=true) (args:Array Value) (w:World):(callFunc f args).run P w=.ok (.enter f args) w:=by
  have hnone:fn.body≠none:=by cases h:fn.body <;> simp_all
  have hname : fn.name ≠ "runtime.NumGoroutine" := by simpa using hN f fn hf hb
  simp [callFunc,hf,hname,hnone]
theorem step_fin {P:Program} {f:FuncId} {fin c:Frame} {cs:List Frame} {w:World} {v:Value} (h:Fin P f .normal fin w v):step P (lone fin (c :: cs) w)=.next (lone (c.finish v) cs w):=by
  obtain ⟨h1,h2,h3,h4,fn,h5,_,h6⟩:=h
  exact step_leave_returned ⟨h2,h3,h4,fn,by rw [h1];exact h5,h6⟩
theorem st_recover {P:Program} {b:Frame} {k:List Item} {cs:List Frame} {ops:Array Oper} {i:Nat} {rest:List Nat} {o:Oper} (ho:ops[i]?=some o) (hw:Region.wanted o (yielded ops a.tmps)=true) (hb:b.roundOf=none)
    (hc:CalmAt b.kind cs) {w':World} (hr:(execOp a.eval o).run P w=.ok .recover w') :
    step P (lone (fr b a (.inRegion ops (i :: rest) :: k)) cs w)=.next (lone (fr b (a.put o.dst .nilIface) (.inRegion ops rest :: k)) cs w'):=by
  have hfin:=fr_finish b a ops i rest k .nilIface
  rw [ho] at hfin
  have hno:tryRecover (fr b a (.inRegion ops (i :: rest) :: k)) cs=none:=by
    rcases hc with hk | ⟨hk,c,rest,rfl,hm⟩
    · simp [tryRecover,fr,hk]
    · simp [tryRecover,fr,hk,hm]
  refine step_lone_go ?_
  rw [stG_op ho hw (.inl hb)]
  have hround:(fr b a (.inRegion ops (i :: rest) :: k)).roundOf=none:=hb
  simp only [stepG.apply,Sem.runT_eq,hr,GStep.bare_after,hround,hno]
  exact congrArg (fun fr=>GStep.go { frame:=fr,callers:=cs,status:=.running,dying:=none } w') hfin
theorem op_defer (c:Call):opK E tm h nx (.defer c)=.fail ∨ ∃ d,opK E tm h nx (.defer c)=.defer d:=by
  simp only [opK,pureK,allocK,effK,otherK]
  split
  · split
    · exact .inl rfl
    · split
      · exact .inr ⟨_,rfl⟩
      · exact .inl rfl
  · exact .inl rfl
theorem doOp_ok (hE:ExtOk E) (hN:NamesOk E.P) {call:CallF} {yield:YieldF} (hcall:CallOk E call) (hyield:YieldOk E yield) {round:Bool} {o:Oper} (he:doOp E call yield round size o tm df h nx=.ok tm' df' h' nx')
    (m:Mid E w0 K ρ size tm df h nx a w) {b:Frame} {cs:List Frame} (hb:FrOk b cs round) {ops:Array Oper} {i:Nat} {rest:List Nat} {k:List Item} (ho:ops[i]?=some o) (hw:Region.wanted o (yielded ops a.tmps)=true) :
    ∃ a' w' ρ',Steps E.P (lone (fr b a (.inRegion ops (i :: rest) :: k)) cs w) (lone (fr b a' (.inRegion ops rest :: k)) cs w')∧Mid E w0 K ρ' size tm' df' h' nx' a' w'∧Stp ρ h nx ρ' h' nx':=by
  have hm:=op_ok hE m.rel (o:=o) (m.ops _)
  have hnd : ∀ x,opK E tm h nx o.op=x→x≠.fail→(∀ d,x≠.defer d)→b.roundOf=none ∨ ∀ c,o.op≠.defer c:=fun x hx h1 h2=>.inr fun c hc=>by
    rw [hc] at hx
    rcases op_defer (E:=E) (tm:=tm) (h:=h) (nx:=nx) c with h3 | ⟨d,h3⟩
    · exact h1 (hx.symm.trans h3)
    · exact h2 d (hx.symm.trans h3)
  unfold doOp at he
  split at he
  · cases he
  · rename_i v h1 nx1 hop
    rw [hop] at hm
    split at he
    · rename_i tm1 hput
      cases he
      obtain ⟨w',ρ',g1,g2,u,g3,g4⟩:=hm
      exact ⟨_,w',ρ',.one (st_value ho hw (hnd _ hop (by simp) (by simp)) g3),(m.go g1 g2).put hput g4,g2⟩
    · cases he
  · rename_i h1 nx1 hop
    rw [hop] at hm
    split at he
    · rename_i tm1 hput
      cases he
      obtain ⟨w',ρ',g1,g2,g3⟩:=hm
      exact ⟨_,w',ρ',.one (st_skipped ho hw (hnd _ hop (by simp) (by simp)) g3),(m.go g1 g2).put hput relU,g2⟩
    · cases he
  · rename_i d hop
    rw [hop] at hm
    split at he
    · cases he
    · split at he
      · rename_i tm1 hput
        cases he
        obtain ⟨d',g1,g2⟩:=hm
        have hr0:b.roundOf=none:=by have:=hb.round;cases hq:b.roundOf <;> simp_all
        have hst:=st_defer (P:=E.P) (b:=b) (k:=k) (cs:=cs) (rest:=rest) ho hw hr0 g2
        refine ⟨_,w,ρ,.one hst,?_,.refl _ _ _⟩
        have m2:Mid E w0 K ρ size tm (d :: df) h nx { a with defers:=d' :: a.defers } w:=⟨m.rel,m.tms,by simp only [RelDs];exact ⟨d',_,rfl,g1,m.dfs⟩,m.size⟩
        exact m2.put hput relU
      · cases he
  · rename_i hop
    rw [hop] at hm
    split at he
    · cases he
    · split at he
      · rename_i tm1 hput
        cases he
        have hr0:b.roundOf=none:=by have:=hb.round;cases hq:b.roundOf <;> simp_all
        exact ⟨_,w,ρ,.one (st_recover ho hw hr0 hb.calm hm),m.put hput (by simp only [RelV]),.refl _ _ _⟩
      · cases he
  · rename_i f args hop
    rw [hop] at hm
    split at he
    · rename_i v h1 nx1 hc
      split at he
      · rename_i tm1 hput
        cases he
        obtain ⟨vargs,g1,g2⟩:=hm
        obtain ⟨⟨fn,hf,hbody⟩,hsound⟩:=hcall _ _ _ _ _ _ _ hc
        rw [callFunc_enter hN hf hbody] at g2
        obtain ⟨fin,w',ρ',v',s1,s2,s3,s4,s5⟩:=hsound w0 K ρ w vargs m.rel g1 .normal (fr b a (.inRegion ops (i :: rest) :: k) :: cs) (.inl rfl)
        have hst:=st_enter (P:=E.P) (b:=b) (k:=k) (cs:=cs) (rest:=rest) ho hw (hnd _ hop (by simp) (by simp)) g2
        have hfin:=fr_finish b a ops i rest k v'
        rw [ho] at hfin
        have hlast:=step_fin (c:=fr b a (.inRegion ops (i :: rest) :: k)) (cs:=cs) s2
        rw [hfin] at hlast
        exact ⟨_,w',ρ',.head hst (s1.trans (.one hlast)),(m.go s3 s4).put hput s5,s4⟩
      · cases he
    · cases he
  · rename_i l args hop
    rw [hop] at hm
    split at he
    · rename_i v h1 nx1 hc
      split at he
      · rename_i tm1 hput
        cases he
        obtain ⟨c,N,hl,vargs,g1,g2⟩:=hm
        obtain ⟨f,tmps,assign,body,y1,y2⟩:=hyield _ _ _ _ _ _ _ hc w0 K ρ w vargs c N m.rel hl g1
        rw [y1] at g2
        obtain ⟨w',ρ',v',s1,s3,s4,s5⟩:=y2 (fr b a (.inRegion ops (i :: rest) :: k)) cs
        have hst:=st_round (P:=E.P) (b:=b) (k:=k) (cs:=cs) (rest:=rest) ho hw (hnd _ hop (by simp) (by simp)) g2
        have hfin:=fr_finish b a ops i rest k v'
        rw [ho] at hfin
        rw [hfin] at s1
        exact ⟨_,w',ρ',.head hst s1,(m.go s3 s4).put hput s5,s4⟩
      · cases he
    · cases he
end
end Go.Ev
namespace Go.Ev
section
variable {E:Env}
variable {w0:World} {K:Nat→Prop}
theorem doOps_ok (hE:ExtOk E) (hN:NamesOk E.P) {call:CallF} {yield:YieldF} (hcall:CallOk E call) (hyield:YieldOk E yield) {round:Bool} {size:Nat} {b:Frame} {cs:List Frame} (hb:FrOk b cs round) {ops:Array Oper} {k:List Item} :
    ∀ (l:List Oper) (i:Nat) (ρ:Ren) (tm tm':PT KV) (df df':List KDef) (h h':Heap) (nx nx':Nat) (a:Act) (w:World),ops.toList.drop i=l →
      doOps E call yield round size ops.toList l tm df h nx=.ok tm' df' h' nx'→Mid E w0 K ρ size tm df h nx a w →
      ∃ a' w' ρ',Steps E.P (lone (fr b a (.inRegion ops (List.range' i l.length) :: k)) cs w) (lone (fr b a' k) cs w')∧Mid E w0 K ρ' size tm' df' h' nx' a' w'∧Stp ρ h nx ρ' h' nx':=by
  intro l
  induction l with
  | nil =>
    intro i ρ tm tm' df df' h h' nx nx' a w _ he m
    simp only [doOps] at he
    cases he
    exact ⟨a,w,ρ,.one st_region_end,m,.refl _ _ _⟩
  | cons o r ih =>
    intro i ρ tm tm' df df' h h' nx nx' a w hl he m
    have hi:ops[i]?=some o:=by
      have:=congrArg (fun l=>l[0]?) hl
      simpa [List.getElem?_drop] using this
    have hr:ops.toList.drop (i+1)=r:=by
      have:=congrArg (List.drop 1) hl
      simpa [List.drop_drop] using this
    have hrange:List.range' i (o :: r).length=i :: List.range' (i+1) r.length:=by simp [List.range'_succ]
    rw [hrange]
    simp only [doOps] at he
    split at he
    · cases he
    · rename_i hw
      split at he
      · rename_i tm1 hput
        have hwf:=wanted_ok (a:=a) hw m.tms
        have hst:=st_op_skip (P:=E.P) (b:=b) (a:=a) (k:=k) (cs:=cs) (w:=w) (ops:=ops) (i:=i) (rest:=List.range' (i+1) r.length) (by simp [hi,hwf])
        rw [hi] at hst
        obtain ⟨a',w',ρ',s1,s2,s3⟩:=ih (i+1) ρ tm1 tm' df df' h h' nx nx' _ w hr he (m.put hput relU)
        exact ⟨a',w',ρ',.head hst s1,s2,s3⟩
      · cases he
    · rename_i hw
      have hwt:=wanted_ok (a:=a) hw m.tms
      split at he
      · cases he
      · rename_i tm1 df1 h1 nx1 hop
        obtain ⟨a1,w1,ρ1,s1,m1,st1⟩:=doOp_ok hE hN hcall hyield hop m hb (rest:=List.range' (i+1) r.length) (k:=k) hi hwt
        obtain ⟨a',w',ρ',s2,m2,st2⟩:=ih (i+1) ρ1 tm1 tm' df1 df' h1 h' nx1 nx' a1 w1 hr he m1
        exact ⟨a',w',ρ',s1.trans s2,m2,st1.trans st2⟩
theorem region_ok (hE:ExtOk E) (hN:NamesOk E.P) {call:CallF} {yield:YieldF} (hcall:CallOk E call) (hyield:YieldOk E yield) {round:Bool} {size:Nat} {b:Frame} {cs:List Frame} (hb:FrOk b cs round) {ops:Array Oper} {k:List Item} {id:Nat}
    {ρ:Ren} {tm tm':PT KV} {df df':List KDef} {h h':Heap} {nx nx':Nat} {a:Act} {w:World}
    (he:doOps E call yield round size ops.toList ops.toList tm df h nx=.ok tm' df' h' nx') (m:Mid E w0 K ρ size tm df h nx a w) :
    ∃ a' w' ρ',Steps E.P (lone (fr b a (.code (.region id ops false) :: k)) cs w) (lone (fr b a' k) cs w')∧Mid E w0 K ρ' size tm' df' h' nx' a' w'∧Stp ρ h nx ρ' h' nx':=by
  obtain ⟨a',w',ρ',s1,s2,s3⟩:=doOps_ok hE hN hcall hyield hb (k:=k) ops.toList 0 ρ tm tm' df df' h h' nx nx' a w (by simp) he m
  refine ⟨a',w',ρ',.head st_region ?_,s2,s3⟩
  have:List.range' 0 ops.toList.length=List.range ops.size:=by simp [List.range_eq_range']
  rw [this] at s1
  exact s1
end
end Go.Ev
namespace Go.Ev
inductive Res where
  | fail
  | ok (e:KExit) (tm:PT KV) (df:List KDef) (h:Heap) (nx:Nat)
structure Task where
  c:Code
  fn:FuncId
  size:Nat
  round:Option Nat
  tm:PT KV
  df:List KDef
  h:Heap
  nx:Nat
def isRound (r:Option Nat):Bool :=
  match r with
  | some _=>true
  | none=>false
structure Parts where
  call:CallF
  yield:YieldF
  draw:(round:Bool)→(size:Nat)→Array Oper→PT KV→List KDef→Heap→Nat→SR
  range:Task→Operand→Array Tmp→Code→Code→Res
noncomputable def execBody (E:Env) (ih:Task→Res) (p:Parts) (t:Task):Res :=
  match t.c with
  | .skip=>.ok .normal t.tm t.df t.h t.nx
  | .label _=>.ok .normal t.tm t.df t.h t.nx
  | .ret=>.ok .ret t.tm t.df t.h t.nx
  | .exit id=>.ok (.exit id) t.tm t.df t.h t.nx
  | .seq a b=>match ih { t with c:=a } with
    | .ok .normal tm df h nx=>ih { t with c:=b,tm,df,h,nx }
    | r=>r
  | .cond x a b=>match evalK t.tm x with
    | some (.bool true)=>ih { t with c:=a }
    | some (.bool false)=>ih { t with c:=b }
    | _=>.fail
  | .block id body=>match ih { t with c:=body } with
    | .ok (.exit id') tm df h nx=>match Nat.beq id' id with
      | true=>.ok .normal tm df h nx
      | false=>.ok (.exit id') tm df h nx
    | r=>r
  | .loop body=>match ih { t with c:=body } with
    | .ok .normal tm df h nx=>ih { t with c:=.loop body,tm,df,h,nx }
    | r=>r
  | .scope body=>ih { t with c:=body }
  | .region _ ops draw=>match draw with
    | false=>match doOps E p.call p.yield (isRound t.round) t.size ops.toList ops.toList t.tm t.df t.h t.nx with
      | .ok tm df h nx=>.ok .normal tm df h nx
      | .fail=>.fail
    | true=>match p.draw (isRound t.round) t.size ops t.tm t.df t.h t.nx with
      | .ok tm df h nx=>.ok .normal tm df h nx
      | .fail=>.fail
  | .rangeFunc f params assign body=>p.range t f params assign body
  | .goto _=>.fail
  | .refuse _=>.fail
structure Runs (ρ:Ren) (b:Frame) (cs:List Frame) (fn:FuncId) (round:Option Nat):Prop where
  fn:b.fn=fn
  round:match round with
    | none=>b.roundOf=none
    | some l => ∃ c N,ρ l=some (c,N)∧b.roundOf=some c
  calm:CalmAt b.kind cs
theorem Runs.frOk {ρ:Ren} {b:Frame} {cs:List Frame} {fn:FuncId} {round:Option Nat} (h:Runs ρ b cs fn round):FrOk b cs (isRound round):=by
  refine ⟨?_,h.calm⟩
  have:=h.round
  cases round with
  | none=>simp only at this;simp [this,isRound]
  | some l=>obtain ⟨c,N,_,h2⟩:=this;simp [h2,isRound]
theorem Runs.mono {ρ ρ':Ren} {b:Frame} {cs:List Frame} {fn:FuncId} {round:Option Nat} (h:Runs ρ b cs fn round) (hs:ρ.Sub ρ'):Runs ρ' b cs fn round:=by
  refine ⟨h.fn,?_,h.calm⟩
  have:=h.round
  cases round with
  | none=>exact this
  | some l=>obtain ⟨c,N,h1,h2⟩:=this;exact ⟨c,N,hs _ _ h1,h2⟩
def Went (E:Env) (w0:World) (K:Nat→Prop) (t:Task) (e:KExit) (tm':PT KV) (df':List KDef) (h':Heap) (nx':Nat):Prop :=
  ∀ (b:Frame) (k:List Item) (cs:List Frame) (a:Act) (w:World) (ρ:Ren),Runs ρ b cs t.fn t.round→Mid E w0 K ρ t.size t.tm t.df t.h t.nx a w →
    ∃ a' w' ρ',Arr E.P (lone (fr b a (.code t.c :: k)) cs w) b k cs e a' w'∧Mid E w0 K ρ' t.size tm' df' h' nx' a' w'∧Stp ρ t.h t.nx ρ' h' nx'
def ExOk (E:Env) (ex:Task→Res):Prop:=∀ t e tm' df' h' nx',ex t=.ok e tm' df' h' nx' → ∀ w0 K,Went E w0 K t e tm' df' h' nx'
def DrawOk (E:Env) (p:Parts):Prop:=∀ round size ops tm df h nx tm' df' h' nx',p.draw round size ops tm df h nx=.ok tm' df' h' nx' →
  ∀ w0 K (b:Frame) (k:List Item) (cs:List Frame) (a:Act) (w:World) (ρ:Ren) id,FrOk b cs round→Mid E w0 K ρ size tm df h nx a w →
    ∃ a' w' ρ',Steps E.P (lone (fr b a (.code (.region id ops true) :: k)) cs w) (lone (fr b a' k) cs w')∧Mid E w0 K ρ' size tm' df' h' nx' a' w'∧Stp ρ h nx ρ' h' nx'
def RangeOk (E:Env) (p:Parts):Prop:=∀ (t:Task) f params assign body e tm' df' h' nx',p.range t f params assign body=.ok e tm' df' h' nx'→t.c=.rangeFunc f params assign body → ∀ w0 K,Went E w0 K t e tm' df' h' nx'
theorem steps_cases {P:Program} {m m':Machine} (h:Steps P m m'):m=m' ∨ ∃ m2,step P m=.next m2∧Steps P m2 m':=by
  obtain ⟨n,hn⟩:=h
  cases n with
  | zero=>simp only [runN] at hn;cases hn;exact .inl rfl
  | succ n =>
    simp only [runN] at hn
    cases hs:step P m with
    | next m2=>rw [hs] at hn;exact .inr ⟨m2,rfl,n,hn⟩
    | ended o w=>rw [hs] at hn;cases hn
theorem lone_todo {b:Frame} {a a':Act} {k k':List Item} {cs:List Frame} {w w':World} (h:lone (fr b a k) cs w=lone (fr b a' k') cs w'):k=k':=by
  have:=congrArg (fun m=>(m.gs[0]?).map (·.frame.todo)) h
  simpa [lone,fr] using this
theorem again {P:Program} {b:Frame} {a a':Act} {k:List Item} {cs:List Frame} {w w':World} {body:Code} {e:KExit} (h:Arr P (lone (fr b a (.code (.loop body) :: k)) cs w) b k cs e a' w') :
    Arr P (lone (fr b a (.inLoop body :: k)) cs w) b k cs e a' w':=by
  have move : ∀ {a':Act} {k':List Item} {w':World},k'≠.code (.loop body) :: k→Steps P (lone (fr b a (.code (.loop body) :: k)) cs w) (lone (fr b a' k') cs w')→Steps P (lone (fr b a (.inLoop body :: k)) cs w) (lone (fr b a' k') cs w'):=by
    intro a' k' w' hne hs
    rcases steps_cases hs with he | ⟨m2,h1,h2⟩
    · exact absurd (lone_todo he).symm hne
    · rw [st_loop] at h1
      cases h1
      exact .head st_inLoop h2
  cases e with
  | normal=>exact move (fun e=>by have:=congrArg List.length e;simp at this) h
  | exit id=>obtain ⟨k2,h1,h2⟩:=h;exact ⟨k2,move (by simp) h1,h2⟩
  | ret=>obtain ⟨k2,h1⟩:=h;exact ⟨k2,move (by simp) h1⟩
section
variable {E:Env}
variable {w0:World} {K:Nat→Prop}
theorem code_ok (hE:ExtOk E) (hN:NamesOk E.P) {p:Parts} (hcall:CallOk E p.call) (hyield:YieldOk E p.yield) (hdraw:DrawOk E p) (hrange:RangeOk E p) {ih:Task→Res} (hih:ExOk E ih) :
    ExOk E (execBody E ih p):=by
  intro t e tm' df' h' nx' he w0 K b k cs a w ρ hr m
  obtain ⟨c,fn,size,round,tm,df,h,nx⟩:=t
  simp only at hr m ⊢
  unfold execBody at he
  simp only at he
  split at he
  · cases he;exact ⟨a,w,ρ,.one st_skip,m,.refl _ _ _⟩
  · cases he;exact ⟨a,w,ρ,.one st_label,m,.refl _ _ _⟩
  · cases he;exact ⟨a,w,ρ,⟨k,.refl _ _⟩,m,.refl _ _ _⟩
  · cases he;exact ⟨a,w,ρ,⟨k,.refl _ _,rfl⟩,m,.refl _ _ _⟩
  · rename_i x y
    have pass : ∀ e1 tm1 df1 h1 nx1,ih ⟨x,fn,size,round,tm,df,h,nx⟩=.ok e1 tm1 df1 h1 nx1→e1≠.normal→.ok e1 tm1 df1 h1 nx1=Res.ok e tm' df' h' nx' →
        ∃ a' w' ρ',Arr E.P (lone (fr b a (.code (.seq x y) :: k)) cs w) b k cs e a' w'∧Mid E w0 K ρ' size tm' df' h' nx' a' w'∧Stp ρ h nx ρ' h' nx':=by
      intro e1 tm1 df1 h1 nx1 h1' hne heq
      cases heq
      obtain ⟨a1,w1,ρ1,q1,q2,q3⟩:=hih _ _ _ _ _ _ h1' w0 K b (.code y :: k) cs a w ρ hr m
      exact ⟨a1,w1,ρ1,.of_steps (.one st_seq) (.pass (fun _=>rfl) hne q1),q2,q3⟩
    cases hx:ih ⟨x,fn,size,round,tm,df,h,nx⟩ with
    | fail=>simp only [hx] at he;cases he
    | ok e1 tm1 df1 h1 nx1 =>
      cases e1 with
      | normal =>
        simp only [hx] at he
        obtain ⟨a1,w1,ρ1,q1,q2,q3⟩:=hih _ _ _ _ _ _ hx w0 K b (.code y :: k) cs a w ρ hr m
        obtain ⟨a2,w2,ρ2,p1,p2,p3⟩:=hih _ _ _ _ _ _ he w0 K b k cs a1 w1 ρ1 (hr.mono q3.sub) q2
        exact ⟨a2,w2,ρ2,.of_steps (.head st_seq q1) p1,p2,q3.trans p3⟩
      | exit id=>simp only [hx] at he;exact pass _ _ _ _ _ hx (by simp) he
      | ret=>simp only [hx] at he;exact pass _ _ _ _ _ hx (by simp) he
  · rename_i x y z
    split at he
    · rename_i hc
      have hv:=m.ops [x] x (by simp) _ hc
      simp only [RelV] at hv
      obtain ⟨a1,w1,ρ1,q1,q2,q3⟩:=hih _ _ _ _ _ _ he w0 K b k cs a w ρ hr m
      exact ⟨a1,w1,ρ1,.of_steps (.one (st_cond hv)) q1,q2,q3⟩
    · rename_i hc
      have hv:=m.ops [x] x (by simp) _ hc
      simp only [RelV] at hv
      obtain ⟨a1,w1,ρ1,q1,q2,q3⟩:=hih _ _ _ _ _ _ he w0 K b k cs a w ρ hr m
      exact ⟨a1,w1,ρ1,.of_steps (.one (st_cond hv)) q1,q2,q3⟩
    · cases he
  · rename_i id body
    cases hx:ih ⟨body,fn,size,round,tm,df,h,nx⟩ with
    | fail=>simp only [hx] at he;cases he
    | ok e1 tm1 df1 h1 nx1 =>
      obtain ⟨a1,w1,ρ1,q1,q2,q3⟩:=hih _ _ _ _ _ _ hx w0 K b (.inBlock id :: k) cs a w ρ hr m
      cases e1 with
      | normal =>
        simp only [hx] at he;cases he
        exact ⟨a1,w1,ρ1,Steps.head st_block (Steps.trans q1 (.one st_inBlock)),q2,q3⟩
      | exit id' =>
        simp only [hx] at he
        obtain ⟨k2,s1,s2⟩:=q1
        split at he
        · rename_i hid
          have:=Nat.eq_of_beq_eq_true hid
          subst this
          cases he
          refine ⟨a1,w1,ρ1,?_,q2,q3⟩
          have hk:exitTo id' k2=some k:=by rw [s2];simp [exitTo]
          exact Steps.head st_block (s1.trans (.one (st_exit hk)))
        · rename_i hid
          cases he
          have hne:¬ (id'=id):=fun e=>by subst e;simp at hid
          refine ⟨a1,w1,ρ1,⟨k2,Steps.head st_block s1,?_⟩,q2,q3⟩
          rw [s2]
          have:(id == id')=false:=by simpa using fun e=>hne (Eq.symm e)
          simp [exitTo,this]
      | ret =>
        simp only [hx] at he;cases he
        obtain ⟨k2,s1⟩:=q1
        exact ⟨a1,w1,ρ1,⟨k2,Steps.head st_block s1⟩,q2,q3⟩
  · rename_i body
    cases hx:ih ⟨body,fn,size,round,tm,df,h,nx⟩ with
    | fail=>simp only [hx] at he;cases he
    | ok e1 tm1 df1 h1 nx1 =>
      obtain ⟨a1,w1,ρ1,q1,q2,q3⟩:=hih _ _ _ _ _ _ hx w0 K b (.inLoop body :: k) cs a w ρ hr m
      cases e1 with
      | normal =>
        simp only [hx] at he
        obtain ⟨a2,w2,ρ2,p1,p2,p3⟩:=hih _ _ _ _ _ _ he w0 K b k cs a1 w1 ρ1 (hr.mono q3.sub) q2
        exact ⟨a2,w2,ρ2,.of_steps (Steps.head st_loop q1) (again p1),p2,q3.trans p3⟩
      | exit id=>simp only [hx] at he;cases he;exact ⟨a1,w1,ρ1,.of_steps (.one st_loop) (.pass (fun _=>rfl) (by simp) q1),q2,q3⟩
      | ret=>simp only [hx] at he;cases he;exact ⟨a1,w1,ρ1,.of_steps (.one st_loop) (.pass (fun _=>rfl) (by simp) q1),q2,q3⟩
  · rename_i body
    obtain ⟨a1,w1,ρ1,q1,q2,q3⟩:=hih _ _ _ _ _ _ he w0 K b (.inScope body :: k) cs a w ρ hr m
    cases e with
    | normal=>exact ⟨a1,w1,ρ1,Steps.head st_scope (Steps.trans q1 (.one st_inScope)),q2,q3⟩
    | exit id=>exact ⟨a1,w1,ρ1,.of_steps (.one st_scope) (.pass (fun _=>rfl) (by simp) q1),q2,q3⟩
    | ret=>exact ⟨a1,w1,ρ1,.of_steps (.one st_scope) (.pass (fun _=>rfl) (by simp) q1),q2,q3⟩
  · rename_i id ops draw
    split at he
    · split at he
      · rename_i tm1 df1 h1 nx1 hops
        cases he
        exact region_ok hE hN hcall hyield hr.frOk hops m
      · cases he
    · split at he
      · rename_i tm1 df1 h1 nx1 hops
        cases he
        exact hdraw _ _ _ _ _ _ _ _ _ _ _ hops w0 K b k cs a w ρ id hr.frOk m
      · cases he
  · rename_i f params assign body
    exact hrange _ _ _ _ _ _ _ _ _ _ he rfl w0 K b k cs a w ρ hr m
  · cases he
  · cases he
end
end Go.Ev
namespace Go.Ev
noncomputable def argsTm:List KV→Nat→PT KV→PT KV
  | [],_,t=>t
  | v :: r,i,t=>argsTm r (Nat.succ i) (t.put i (some v))
section
variable (P:Program)
noncomputable def resultOne (tm:PT KV) (h:Heap):ResultVar→Option KV
  | .tmp t=>tm.get t
  | .cell a t=>match tm.get a with
    | some p=>loadK P h t p
    | none=>none
noncomputable def resultAll (tm:PT KV) (h:Heap):List ResultVar→Option (List KV)
  | []=>some []
  | r :: rs=>match resultOne P tm h r with
    | none=>none
    | some v=>match resultAll tm h rs with
      | none=>none
      | some l=>some (v :: l)
end
def packK:List KV→KV
  | [v]=>v
  | l=>.tuple l
noncomputable def unwindK (call:CallF):List KDef→Heap→Nat→Option (Heap × Nat)
  | [],h,nx=>some (h,nx)
  | .collected b :: r,h,nx=>match h.get b with
    | some .deferred=>unwindK call r (h.put b none) nx
    | _=>none
  | .call fn captured args :: r,h,nx=>match fn with
    | .func f=>match call f (args ++ captured) h nx with
      | .ok _ h nx=>unwindK call r h nx
      | .fail=>none
    | _=>none
noncomputable def callBody (E:Env) (ih:Task→Res) (call:CallF) (f:FuncId) (args:List KV) (h:Heap) (nx:Nat):CR :=
  match E.P.funcs[f]? with
  | none=>.fail
  | some fn=>match fn.body with
    | none=>.fail
    | some c=>match Nat.ble (nlen args) fn.ntmps with
      | false=>.fail
      | true=>match ih ⟨c,f,fn.ntmps,none,argsTm args 0 .leaf,[],h,nx⟩ with
        | .fail=>.fail
        | .ok e tm df h nx=>match e with
          | .exit _=>.fail
          | _=>match unwindK call df h nx with
            | none=>.fail
            | some (h,nx)=>match resultAll E.P tm h fn.results.toList with
              | some l=>.ok (packK l) h nx
              | none=>.fail
section
variable {w0:World} {K:Nat→Prop} {ρ:Ren} {h:Heap} {nx:Nat} {w:World}
theorem Rel.drop (r:Rel w0 K ρ h nx w) {b c N:Nat} {o:KObj} (hb:h.get b=some o) (hw:o.writable=true) (hr:ρ b=some (c,N)) (o':Obj) :
    Rel w0 K ρ (h.put b none) nx { w with heap:=w.heap.setIfInBounds c o' } where
  img b1 o1 c1 N1 h1 h2:=by
    by_cases he:b1=b
    · subst he;rw [PT.get_put_eq] at h1;cases h1
    · rw [PT.get_put_ne _ _ _ _ he] at h1
      obtain ⟨o3,h3,h4,h5⟩:=r.img b1 o1 c1 N1 h1 h2
      have hc:c≠c1:=fun e=>he (r.inj b1 b _ _ c1 N1 N h1 hb h2 (e ▸ hr))
      exact ⟨o3,by simp [Array.getElem?_setIfInBounds_ne hc,h3],h4,h5⟩
  low:=(r.del b).low
  fresh:=r.fresh
  inj:=(r.del b).inj
  kept c1 hk1:=by
    obtain ⟨h1,h2⟩:=r.kept c1 hk1
    obtain ⟨ob,hob,_,hk⟩:=r.img b o c N hb hr
    have hc:c≠c1:=fun e=>hk hw (e ▸ hk1)
    exact ⟨h1,by simp [Array.getElem?_setIfInBounds_ne hc,h2]⟩
  grown:=by simpa using r.grown
  os:=r.os
  output:=r.output
  glob:=r.glob
theorem argsTm_get : ∀ (l:List KV) (i:Nat) (t:PT KV) (j:Nat),(argsTm l i t).get j=if i≤j∧j<i+l.length then l[j - i]? else t.get j
  | [],i,t,j=>by simp [argsTm];omega
  | v :: r,i,t,j=>by
    simp only [argsTm,Nat.succ_eq_add_one,argsTm_get r,List.length_cons]
    by_cases h1:i+1≤j∧j<i+1+r.length
    · rw [if_pos h1,if_pos (by omega)]
      have:j - i=(j - (i+1))+1:=by omega
      rw [this];simp
    · rw [if_neg h1,PT.get_put]
      by_cases h2:j=i
      · subst h2;simp
      · rw [if_neg h2,if_neg (by omega)]
theorem args_rel {args:List KV} {vargs:Array Value} (h:RelVs ρ args vargs.toList) (m:Nat):RelT ρ (argsTm args 0 .leaf) (vargs ++ Array.replicate m undef):=by
  intro t k hk
  rw [argsTm_get] at hk
  split at hk
  · simp only [Nat.sub_zero] at hk
    obtain ⟨v,h1,h2⟩:=h.get t k hk
    have hlt:t<vargs.size:=by have:=(List.getElem?_eq_some_iff.1 h1).1;simpa using this
    exact ⟨v,by rw [Array.getElem?_append_left hlt];simpa using h1,h2⟩
  · cases hk
def resVar (tmps:Array Value) (r:ResultVar):Sem Value :=
  match r with
  | .tmp t=>pure (tmps.getD t undef)
  | .cell a t=>do loadVar t (← asAddr (tmps.getD a undef))
theorem results_eq (fn:Func) (tmps:Array Value):results fn tmps=(do let vs ← fn.results.mapM (resVar tmps);pure (if h:vs.size=1 then vs[0] else .tuple vs)):=by
  have:(fun r=>resVar tmps r)=fun r=>(match r with | .tmp t=>pure (tmps.getD t undef) | .cell a t=>do loadVar t (← asAddr (tmps.getD a undef)):Sem Value):=by
    funext r;cases r <;> rfl
  unfold results
  congr 1
theorem results_ok {P:Program} (r:Rel w0 K ρ h nx w) {tm:PT KV} {tmps:Array Value} (ht:RelT ρ tm tmps) : ∀ {rs:List ResultVar} {l:List KV},resultAll P tm h rs=some l →
    ∃ vs:List Value,(rs.mapM (resVar tmps)).run P w=.ok vs w∧RelVs ρ l vs
  | [],l,h=>by simp [resultAll] at h;subst h;exact ⟨[],by simp,by simp [RelVs]⟩
  | q :: rs, l, h => by
    simp only [resultAll] at h
    split at h
    · cases h
    · rename_i v hv
      split at h
      · cases h
      · rename_i l' hl
        cases h
        obtain ⟨vs,g1,g2⟩:=results_ok r ht hl
        have hone : ∃ u,(resVar tmps q).run P w=.ok u w∧RelV ρ v u:=by
          cases q with
          | tmp t =>
            obtain ⟨u,h1,h2⟩:=ht t v hv
            exact ⟨u,by simp [resVar,h1],h2⟩
          | cell a t =>
            simp only [resultOne] at hv
            split at hv
            · rename_i p hp
              obtain ⟨u,h1,h2⟩:=ht a p hp
              obtain ⟨x,h3,h4⟩:=load_ok (P:=P) r hv h2
              refine ⟨x,?_,h4⟩
              have hptr : ∃ ad,u=.pointer (some ad):=by
                unfold loadK at hv
                split at hv
                · simp only [RelV] at h2
                  obtain ⟨c,N,_,rfl⟩:=h2
                  exact ⟨_,rfl⟩
                · cases hv
              obtain ⟨ad,rfl⟩:=hptr
              have hg:tmps.getD a undef=.pointer (some ad):=by simp [h1]
              simpa [resVar,hg,asAddr,Instr.loadAt,Instr.sureAddr] using h3
            · cases hv
        obtain ⟨u,h1,h2⟩:=hone
        refine ⟨u :: vs,?_,by simp only [RelVs];exact ⟨u,vs,rfl,h2,g2⟩⟩
        rw [List.mapM_cons]
        simp only [Sem.run_bind,h1,Result.andThen_ok,g1,Sem.run_pure]
theorem pack_ok {l:List KV} {vs:List Value} (h:RelVs ρ l vs):RelV ρ (packK l) (if h:vs.toArray.size=1 then vs.toArray[0] else .tuple vs.toArray):=by
  unfold packK
  split
  · simp only [RelVs] at h
    obtain ⟨x,s,rfl,h2,rfl⟩:=h
    simpa using h2
  · rename_i hne
    have hl:=h.length
    have:¬ (vs.toArray.size=1):=fun e=>by
      simp at e
      rw [hl] at e
      match l,e with
      | [v],_=>exact hne v rfl
    rw [dif_neg this]
    simp only [RelV]
    exact ⟨_,rfl,by simpa using h⟩
end
end Go.Ev
namespace Go.Ev
def rf (b:Frame) (a:Act) (todo:List Item) (ds:List Deferred):Frame:={ b with tmps:=a.tmps,defers:=ds,todo,mode:=.returning }
section
variable {P:Program} {b:Frame} {a:Act} {k:List Item} {cs:List Frame} {w:World}
theorem st_take {c:Nat} {ds:List Deferred} (h:w.heap[c]?=some (.deferred (some []))) :
    step P (lone (rf b a k ({ target:=.collected c,args:=#[] } :: ds)) cs w)=.next (lone (rf b a k ds) cs { w with heap:=w.heap.setIfInBounds c (.deferred none) }) :=
  step_lone_go (by simp [stepG,unwind,rf,Instr.takeDeferred,getObj,setObj,Sem.run,h])
theorem st_late {g:FuncId} {cap args:Array Value} {ds:List Deferred} (h:(callFunc g (args ++ cap)).run P w=.ok (.enter g (args ++ cap)) w) :
    step P (lone (rf b a k ({ target:=.fn (.func g) cap,args } :: ds)) cs w)=.next (lone (Frame.enter P g (args ++ cap) .deferred) (rf b a k ds :: cs) w) :=
  step_lone_go (by simp [stepG,unwind,rf,callDeferred,invoke,h])
theorem st_back {f:FuncId} {fin:Frame} {v:Value} {ds:List Deferred} (h:Fin P f .deferred fin w v):step P (lone fin (rf b a k ds :: cs) w)=.next (lone (rf b a k ds) cs w):=by
  obtain ⟨h1,h2,h3,h4,fn,h5,_,h6⟩:=h
  exact step_lone_go (by simp [stepG,unwind,doReturn,h2,h3,h4,h1,h5,h6,rf])
end
section
variable {E:Env}
variable {w0:World} {K:Nat→Prop}
theorem unwind_ok (hN:NamesOk E.P) {call:CallF} (hcall:CallOk E call) : ∀ (df:List KDef) (h h':Heap) (nx nx':Nat) (ρ:Ren) (w:World) (ds:List Deferred) (b:Frame) (a:Act) (k:List Item) (cs:List Frame),
    unwindK call df h nx=some (h',nx')→Rel w0 K ρ h nx w→RelDs ρ df ds →
    ∃ w' ρ',Steps E.P (lone (rf b a k ds) cs w) (lone (rf b a k []) cs w')∧Rel w0 K ρ' h' nx' w'∧Stp ρ h nx ρ' h' nx':=by
  intro df
  induction df with
  | nil =>
    intro h h' nx nx' ρ w ds b a k cs he r hd
    simp only [unwindK] at he
    cases he
    simp only [RelDs] at hd
    subst hd
    exact ⟨w,ρ,.refl _ _,r,.refl _ _ _⟩
  | cons q rest ih =>
    intro h h' nx nx' ρ w ds b a k cs he r hd
    simp only [RelDs] at hd
    obtain ⟨d,s,rfl,hd1,hd2⟩:=hd
    cases q with
    | collected bl =>
      obtain ⟨c,N,hr,rfl⟩:=hd1
      simp only [unwindK] at he
      split at he
      · rename_i hb
        obtain ⟨o',h1,h2,_⟩:=r.img bl _ c N hb hr
        simp only [RelO] at h2
        subst h2
        have r2:=r.drop hb rfl hr (.deferred none)
        obtain ⟨w',ρ',s1,s2,s3⟩:=ih _ _ _ _ _ _ s b a k cs he r2 hd2
        exact ⟨w',ρ',.head (st_take h1) s1,s2,(Stp.set hr).trans s3⟩
      · cases he
    | call fn captured args =>
      obtain ⟨fn',cs',as',h1,h2,h3,rfl⟩:=hd1
      simp only [unwindK] at he
      split at he
      · rename_i g
        simp only [RelFn] at h1
        subst h1
        split at he
        · rename_i v h1 nx1 hc
          obtain ⟨⟨fn,hf,hbody⟩,hsound⟩:=hcall _ _ _ _ _ _ _ hc
          have henter:=callFunc_enter hN hf hbody (as' ++ cs') w
          have hargs:RelVs ρ (args ++ captured) (as' ++ cs').toList:=by rw [Array.toList_append];exact h3.append h2
          obtain ⟨fin,w1,ρ1,v',s1,s2,s3,s4,_⟩:=hsound w0 K ρ w (as' ++ cs') r hargs .deferred (rf b a k s :: cs) (.inr ⟨rfl,_,_,rfl,rfl⟩)
          obtain ⟨w',ρ',p1,p2,p3⟩:=ih _ _ _ _ _ _ s b a k cs he s3 (hd2.mono s4.sub)
          exact ⟨w',ρ',.head (st_late henter) (s1.trans (.head (st_back s2) p1)),p2,s4.trans p3⟩
        · cases he
      · cases he
theorem call_ok (hN:NamesOk E.P) {call:CallF} (hcall:CallOk E call) {ih:Task→Res} (hih:ExOk E ih):CallOk E (callBody E ih call):=by
  intro f args h nx v h' nx' he
  unfold callBody at he
  split at he
  · cases he
  · rename_i fn hf
    split at he
    · cases he
    · rename_i c hc
      refine ⟨⟨fn,hf,by rw [hc];rfl⟩,?_⟩
      intro w0 K ρ w vargs r hargs kind cs hcalm
      split at he
      · cases he
      · rename_i hle
        have hle:=Nat.le_of_ble_eq_true hle
        rw [nlen_eq] at hle
        have hlen:=hargs.length
        simp at hlen
        split at he
        · cases he
        · rename_i e tm df h1 nx1 hex
          have henter:Frame.enter E.P f vargs kind=fr (Frame.enter E.P f vargs kind) ⟨vargs ++ Array.replicate (fn.ntmps - vargs.size) undef,[]⟩ [.code c]:=by
            simp [Frame.enter,fr,hf,hc]
          have hrun:Runs ρ (Frame.enter E.P f vargs kind) cs f none:=⟨rfl,rfl,hcalm⟩
          have hmid:Mid E w0 K ρ fn.ntmps (argsTm args 0 .leaf) [] h nx ⟨vargs ++ Array.replicate (fn.ntmps - vargs.size) undef,[]⟩ w :=
            ⟨r,args_rel hargs _,rfl,by simp;omega⟩
          obtain ⟨a1,w1,ρ1,q1,q2,q3⟩:=hih _ _ _ _ _ _ hex w0 K (Frame.enter E.P f vargs kind) [] cs _ w ρ hrun hmid
          rw [← henter] at q1
          have main : ∀ (todo:List Item),Steps E.P (lone (Frame.enter E.P f vargs kind) cs w) (lone (rf (Frame.enter E.P f vargs kind) a1 todo a1.defers) cs w1) →
              (match unwindK call df h1 nx1 with | none=>CR.fail | some (h,nx)=>match resultAll E.P tm h fn.results.toList with | some l=>.ok (packK l) h nx | none=>.fail)=.ok v h' nx' →
              ∃ fin w' ρ' v',Steps E.P (lone (Frame.enter E.P f vargs kind) cs w) (lone fin cs w')∧Fin E.P f kind fin w' v'∧Rel w0 K ρ' h' nx' w'∧Stp ρ h nx ρ' h' nx'∧RelV ρ' v v':=by
            intro todo hst hres
            split at hres
            · cases hres
            · rename_i h2 nx2 hun
              split at hres
              · rename_i l hl
                cases hres
                obtain ⟨w2,ρ2,s1,s2,s3⟩:=unwind_ok hN hcall _ _ _ _ _ _ _ _ (Frame.enter E.P f vargs kind) a1 todo cs hun q2.rel q2.dfs
                obtain ⟨vs,g1,g2⟩:=results_ok (P:=E.P) s2 (q2.tms.mono s3.sub) hl
                refine ⟨rf (Frame.enter E.P f vargs kind) a1 todo [],w2,ρ2,_,hst.trans s1,⟨rfl,rfl,rfl,rfl,fn,hf,by rw [hc];rfl,?_⟩,s2,q3.trans s3,pack_ok g2⟩
                have hm:(fn.results.mapM (resVar a1.tmps)).run E.P w2=.ok vs.toArray w2:=by
                  simp only [Array.mapM_eq_mapM_toList,Sem.run_map,g1,Result.andThen_ok]
                rw [results_eq]
                simp only [rf,Sem.run_bind]
                rw [hm]
                rfl
              · cases hres
          cases e with
          | exit id=>cases he
          | normal =>
            simp only at he
            exact main [] (Steps.trans q1 (.one (st_end rfl))) he
          | ret =>
            simp only at he
            obtain ⟨k2,s1⟩:=q1
            exact main (.code .ret :: k2) (s1.trans (.one (st_ret rfl))) he
end
end Go.Ev
namespace Go.Ev
noncomputable def paramsTm (size:Nat):List Tmp→List KV→PT KV→Option (PT KV)
  | [],[],t=>some t
  | p :: ps,v :: vs,t=>match tput size t (some p) v with
    | some t=>paramsTm size ps vs t
    | none=>none
  | _,_,_=>none
noncomputable def yieldBody (_E:Env) (ih:Task→Res) (l:Nat) (args:List KV) (h:Heap) (nx:Nat):CR :=
  match h.get l with
  | some (.loop r)=>match paramsTm r.size r.params args r.tm with
    | none=>.fail
    | some tm=>match ih ⟨r.assign,r.fn,r.size,some l,tm,[],h,nx⟩ with
      | .ok .normal tm [] h nx=>match h.get l with
        | some (.loop r2)=>match r2.ready with
          | false=>.fail
          | true=>match ih ⟨r.body,r.fn,r.size,some l,tm,[],h.put l (some (.loop { r2 with ready:=false,done:=false })),nx⟩ with
            | .ok e _ [] h nx=>match h.get l with
              | some (.loop r3)=>match e with
                | .normal=>.ok (.bool true) (h.put l (some (.loop { r3 with ready:=true,jump:=none }))) nx
                | .ret=>.ok (.bool false) (h.put l (some (.loop { r3 with ready:=false,done:=true,jump:=some .ret }))) nx
                | .exit id=>.ok (.bool false) (h.put l (some (.loop { r3 with ready:=false,done:=true,jump:=some (.exit id) }))) nx
              | _=>.fail
            | _=>.fail
        | _=>.fail
      | _=>.fail
  | _=>.fail
section
variable {P:Program} {b:Frame} {a:Act} {k:List Item} {cs:List Frame} {w:World}
theorem st_begin {c:Nat} {r:Loop} (hb:b.roundOf=some c) (h:w.heap[c]?=some (.loop r)) (hr:r.state=.ready) :
    step P (lone (fr b a (.beginRound :: k)) cs w)=.next (lone (fr b a k) cs { w with heap:=w.heap.setIfInBounds c (.loop { r with state:=.busy }) }) :=
  step_lone_go (by simp [stepG,stepG.exec,stepG.apply,fr,hb,Instr.beginRound,Instr.getLoop,getObj,setObj,Sem.run,h,hr,Frame.finish])
theorem endRound_run {c:Nat} {r:Loop} (h:w.heap[c]?=some (.loop r)) (jump:Option Code) :
    (Instr.endRound c jump).run P w=.ok (.bool jump.isNone) { w with heap:=w.heap.setIfInBounds c (.loop { r with state:=if jump.isNone then .ready else .done,pending:=jump }) } := by
  simp [Instr.endRound,Instr.getLoop,getObj,setObj,Sem.run,h]
theorem st_round_end {c:Nat} {r:Loop} {fr0:Frame} (hb:b.roundOf=some c) (hk:b.kind=.normal) (h:w.heap[c]?=some (.loop r)) :
    step P (lone (fr b a []) (fr0 :: cs) w)=.next (lone (fr0.finish (.bool true)) cs { w with heap:=w.heap.setIfInBounds c (.loop { r with state:=.ready,pending:=none }) }) :=
  step_lone_go (by simp [stepG,stepG.exec,fr,hb,hk,endRound_run h,doReturn])
theorem st_round_ret {c:Nat} {r:Loop} {fr0:Frame} (hb:b.roundOf=some c) (hk:b.kind=.normal) (h:w.heap[c]?=some (.loop r)) :
    step P (lone (fr b a (.code .ret :: k)) (fr0 :: cs) w)=.next (lone (fr0.finish (.bool false)) cs { w with heap:=w.heap.setIfInBounds c (.loop { r with state:=.done,pending:=some .ret }) }) :=
  step_lone_go (by simp [stepG,stepG.exec,fr,hb,hk,endRound_run h,doReturn])
theorem st_round_exit {c id:Nat} {r:Loop} {fr0:Frame} (hb:b.roundOf=some c) (hk:b.kind=.normal) (h:w.heap[c]?=some (.loop r)) (hx:exitTo id k=none) :
    step P (lone (fr b a (.code (.exit id) :: k)) (fr0 :: cs) w)=.next (lone (fr0.finish (.bool false)) cs { w with heap:=w.heap.setIfInBounds c (.loop { r with state:=.done,pending:=some (.exit id) }) }) :=
  step_lone_go (by simp [stepG,stepG.exec,fr,hb,hk,endRound_run h,doReturn,hx])
theorem params_ok {ρ:Ren} {size:Nat} : ∀ {ps:List Tmp} {vs:List KV} {tm tm':PT KV} {tmps:Array Value} {vvs:List Value},paramsTm size ps vs tm=some tm'→RelVs ρ vs vvs→RelT ρ tm tmps→tmps.size=size →
    ps.length=vvs.length∧RelT ρ tm' ((ps.zip vvs).foldl (fun tmps (x:Tmp × Value)=>tmps.setIfInBounds x.1 x.2) tmps)∧((ps.zip vvs).foldl (fun tmps (x:Tmp × Value)=>tmps.setIfInBounds x.1 x.2) tmps).size=size
  | [],[],tm,tm',tmps,vvs,he,hv,ht,hs=>by
    simp only [paramsTm] at he
    cases he
    simp only [RelVs] at hv
    subst hv
    exact ⟨rfl,ht,hs⟩
  | p :: ps,v :: vs,tm,tm',tmps,vvs,he,hv,ht,hs=>by
    simp only [paramsTm] at he
    split at he
    · rename_i t1 hput
      simp only [RelVs] at hv
      obtain ⟨x,s,rfl,h2,h3⟩:=hv
      obtain ⟨q1,q2,_⟩:=RelT.put ht hs hput h2 []
      obtain ⟨p1,p2,p3⟩:=params_ok he h3 q1 q2
      exact ⟨by simp [p1],p2,p3⟩
    · cases he
  | [],_ :: _,_,_,_,_,he,_,_,_=>by simp [paramsTm] at he
  | _ :: _,[],_,_,_,_,he,_,_,_=>by simp [paramsTm] at he
end
end Go.Ev
namespace Go.Ev
section
variable {E:Env}
theorem loop_img {w0:World} {K:Nat→Prop} {ρ:Ren} {h:Heap} {nx:Nat} {w:World} (r:Rel w0 K ρ h nx w) {l c N:Nat} {q:KLoop} (hl:h.get l=some (.loop q)) (hr:ρ l=some (c,N)) :
    ∃ r',w.heap[c]?=some (.loop r')∧RelL ρ q r':=by
  obtain ⟨o',h1,h2,_⟩:=r.img l _ c N hl hr
  obtain ⟨r',rfl,h3⟩:=h2
  exact ⟨r',h1,h3⟩
theorem yield_ok {ih:Task→Res} (hih:ExOk E ih):YieldOk E (yieldBody E ih):=by
  intro l args h nx v h' nx' he w0 K ρ w vargs c N r hl hargs
  unfold yieldBody at he
  split at he
  · rename_i q hq
    obtain ⟨r',hw,hL⟩:=loop_img r hq hl
    split at he
    · cases he
    · rename_i tm hpar
      obtain ⟨p1,p2,p3⟩:=params_ok hpar hargs hL.tm hL.size
      have hsz:vargs.size=r'.params.size:=by
        have h1:r'.params.toList.length=vargs.toList.length:=by rw [hL.params];exact p1
        simpa using h1.symm
      have hfold:(r'.params.zip vargs).foldl (fun tmps (x:Tmp × Value)=>tmps.setIfInBounds x.1 x.2) r'.tmps=((q.params.zip vargs.toList).foldl (fun tmps (x:Tmp × Value)=>tmps.setIfInBounds x.1 x.2) r'.tmps):=by
        rw [← Array.foldl_toList,Array.toList_zip,hL.params]
      refine ⟨r'.fn,(q.params.zip vargs.toList).foldl (fun tmps (x:Tmp × Value)=>tmps.setIfInBounds x.1 x.2) r'.tmps,r'.assign,r'.body,?_,?_⟩
      · simp only [Instr.yield,Instr.getLoop,getObj,Sem.run_bind,Sem.run,hw,Result.andThen_ok,Sem.run_pure]
        rw [if_neg (by simp [hsz])]
        simp only [Sem.run_pure]
        congr 2
      · intro fr0 cs
        have hfr:Frame.round c r'.fn ((q.params.zip vargs.toList).foldl (fun tmps (x:Tmp × Value)=>tmps.setIfInBounds x.1 x.2) r'.tmps) r'.assign r'.body .normal =
            fr (Frame.round c r'.fn ((q.params.zip vargs.toList).foldl (fun tmps (x:Tmp × Value)=>tmps.setIfInBounds x.1 x.2) r'.tmps) r'.assign r'.body .normal) ⟨(q.params.zip vargs.toList).foldl (fun tmps (x:Tmp × Value)=>tmps.setIfInBounds x.1 x.2) r'.tmps,[]⟩ [.code r'.assign,.beginRound,.code r'.body]:=rfl
        generalize hB:Frame.round c r'.fn ((q.params.zip vargs.toList).foldl (fun tmps (x:Tmp × Value)=>tmps.setIfInBounds x.1 x.2) r'.tmps) r'.assign r'.body .normal=B at hfr
        have hBr:B.roundOf=some c:=by rw [← hB];rfl
        have hBk:B.kind=.normal:=by rw [← hB];rfl
        have hBf:B.fn=q.fn:=by rw [← hB];exact hL.fn
        rw [hfr]
        split at he
        · rename_i tm1 h1 nx1 hex1
          have runs : ∀ ρ',ρ.Sub ρ'→Runs ρ' B (fr0 :: cs) q.fn (some l):=fun ρ' hs=>⟨hBf,⟨c,N,hs _ _ hl,hBr⟩,.inl hBk⟩
          have hmid:Mid E w0 K ρ q.size tm [] h nx ⟨(q.params.zip vargs.toList).foldl (fun tmps (x:Tmp × Value)=>tmps.setIfInBounds x.1 x.2) r'.tmps,[]⟩ w:=⟨r,p2,rfl,p3⟩
          obtain ⟨a1,w1,ρ1,s1,m1,st1⟩:=hih _ _ _ _ _ _ hex1 w0 K B [.beginRound,.code r'.body] (fr0 :: cs) _ w ρ (runs ρ (.refl ρ)) hmid
          simp only at s1
          rw [← hL.assign] at s1
          split at he
          · rename_i r2 hr2
            split at he
            · cases he
            · rename_i hready
              obtain ⟨r2',hw2,hL2⟩:=loop_img m1.rel hr2 (st1.sub _ _ hl)
              have hst2:r2'.state=.ready:=by rw [hL2.state,hready]
              have hrel2:RelO ρ1 N (.loop { r2 with ready:=false,done:=false }) (.loop { r2' with state:=.busy }):=⟨_,rfl,{ hL2 with state:=rfl }⟩
              have rset:=m1.rel.set hr2 rfl (st1.sub _ _ hl) hrel2
              split at he
              · rename_i e tm3 h3 nx3 hex3
                have m2:Mid E w0 K ρ1 q.size tm1 [] (h1.put l (some (.loop { r2 with ready:=false,done:=false }))) nx1 a1 { w1 with heap:=w1.heap.setIfInBounds c (.loop { r2' with state:=.busy }) } :=
                  ⟨rset,m1.tms,m1.dfs,m1.size⟩
                obtain ⟨a3,w3,ρ3,s3,m3,st3⟩:=hih _ _ _ _ _ _ hex3 w0 K B [] (fr0 :: cs) a1 _ ρ1 (runs ρ1 st1.sub) m2
                simp only at s3
                rw [← hL.body] at s3
                have hl3:=st3.sub _ _ (st1.sub _ _ hl)
                have hbegin:=st_begin (P:=E.P) (a:=a1) (k:=[.code r'.body]) (cs:=fr0 :: cs) hBr hw2 hst2
                have upto:Steps E.P (lone (fr B ⟨(q.params.zip vargs.toList).foldl (fun tmps (x:Tmp × Value)=>tmps.setIfInBounds x.1 x.2) r'.tmps,[]⟩ [.code r'.assign,.beginRound,.code r'.body]) (fr0 :: cs) w)
                    (lone (fr B a1 [.code r'.body]) (fr0 :: cs) { w1 with heap:=w1.heap.setIfInBounds c (.loop { r2' with state:=.busy }) }):=Steps.trans s1 (.one hbegin)
                have stp:Stp ρ h nx ρ3 h3 nx3:=(st1.trans (Stp.set (st1.sub _ _ hl))).trans st3
                split at he
                · rename_i r3 hr3
                  obtain ⟨r3',hw3,hL3⟩:=loop_img m3.rel hr3 hl3
                  split at he
                  · cases he
                    have hO:RelO ρ3 N (.loop { r3 with ready:=true,jump:=none }) (.loop { r3' with state:=.ready,pending:=none }):=⟨_,rfl,{ hL3 with state:=rfl,pending:=rfl }⟩
                    refine ⟨_,ρ3,.bool true,(upto.trans s3).trans (.one (st_round_end hBr hBk hw3)),m3.rel.set hr3 rfl hl3 hO,stp.trans (Stp.set hl3),by simp only [RelV]⟩
                  · cases he
                    obtain ⟨k2,s4⟩:=s3
                    have hO:RelO ρ3 N (.loop { r3 with ready:=false,done:=true,jump:=some .ret }) (.loop { r3' with state:=.done,pending:=some .ret }):=⟨_,rfl,{ hL3 with state:=rfl,pending:=rfl }⟩
                    refine ⟨_,ρ3,.bool false,(upto.trans s4).trans (.one (st_round_ret hBr hBk hw3)),m3.rel.set hr3 rfl hl3 hO,stp.trans (Stp.set hl3),by simp only [RelV]⟩
                  · rename_i id
                    cases he
                    obtain ⟨k2,s4,s5⟩:=s3
                    have hO:RelO ρ3 N (.loop { r3 with ready:=false,done:=true,jump:=some (.exit id) }) (.loop { r3' with state:=.done,pending:=some (.exit id) }):=⟨_,rfl,{ hL3 with state:=rfl,pending:=rfl }⟩
                    refine ⟨_,ρ3,.bool false,(upto.trans s4).trans (.one (st_round_exit hBr hBk hw3 s5)),m3.rel.set hr3 rfl hl3 hO,stp.trans (Stp.set hl3),by simp only [RelV]⟩
                · cases he
              · cases he
          · cases he
        · cases he
  · cases he
end
end Go.Ev
namespace Go.Ev
noncomputable def rangeStart (t:Task) (params:Array Tmp) (assign body:Code):Option (Heap × Nat × Nat × List KDef) :=
  match t.round with
  | some lo=>match t.h.get lo with
    | some (.loop _)=>some (t.h.put t.nx (some (.loop ⟨true,false,none,t.fn,t.size,t.tm,params.toList,assign,body,t.round⟩)),Nat.succ t.nx,t.nx,t.df)
    | _=>none
  | none=>some ((t.h.put t.nx (some .deferred)).put (Nat.succ t.nx) (some (.loop ⟨true,false,none,t.fn,t.size,t.tm,params.toList,assign,body,t.round⟩)),Nat.succ (Nat.succ t.nx),Nat.succ t.nx,.collected t.nx :: t.df)
noncomputable def rangeK (ih:Task→Res) (call:CallF) (t:Task) (f:Operand) (params:Array Tmp) (assign body:Code):Res :=
  match rangeStart t params assign body with
  | none=>.fail
  | some (h,nx,l,df)=>match evalK t.tm f with
    | some (.func fn first captured)=>match fn with
      | .func g=>match call g (first ++ [.func (.yield l) [] []] ++ captured) h nx with
        | .fail=>.fail
        | .ok _ h nx=>match h.get l with
          | some (.loop r)=>match r.ready || r.done with
            | true=>match r.jump with
              | none=>.ok .normal t.tm df (h.put l none) nx
              | some c=>ih { t with c,df,h:=h.put l none,nx }
            | false=>.fail
          | _=>.fail
      | _=>.fail
    | _=>.fail
section
variable {P:Program} {b:Frame} {a:Act} {k:List Item} {cs:List Frame} {w:World}
theorem st_range {f:Operand} {params:Array Tmp} {assign body:Code} {l:Nat} {mark:List Deferred} {w1:World} {g:FuncId} {args:Array Value}
    (h1:(Instr.enterLoop b.fn a.tmps params assign body b.roundOf).run P w=.ok (l,mark) w1)
    (h2:((do let d ← resolve a.eval { callee:=.value f,args:=#[.const (.func (.yield l) #[] #[])],argTypes:=#[] } 0;invoke d.target d.args:Sem Next)).run P w1=.ok (.enter g args) w1) :
    step P (lone (fr b a (.code (.rangeFunc f params assign body) :: k)) cs w) =
      .next (lone (Frame.enter P g args .normal) (fr b ⟨a.tmps,mark ++ a.defers⟩ (.inRangeFunc l :: k) :: cs) w1):=by
  have he:(fr b ⟨a.tmps,mark ++ a.defers⟩ (.inRangeFunc l :: k)).eval=a.eval:=by funext x;cases x <;> rfl
  have h2':((do let d ← resolve (fr b ⟨a.tmps,mark ++ a.defers⟩ (.inRangeFunc l :: k)).eval { callee:=.value f,args:=#[.const (.func (.yield l) #[] #[])],argTypes:=#[] } 0;invoke d.target d.args:Sem Next)).run P w1=.ok (.enter g args) w1:=by rw [he];exact h2
  simp only [fr] at h2'
  refine step_lone_go ?_
  simp only [stepG,stepG.exec,fr,Sem.runT_eq,h1,GStep.bare_after]
  simp only [stepG.apply,Sem.runT_eq,h2',GStep.bare_after]
  rfl
theorem st_endRange {l:Nat} {r:Loop} (h:w.heap[l]?=some (.loop r)) (hs:r.state≠.busy) :
    step P (lone (fr b a (.endRangeFunc l :: k)) cs w)=.next (lone (fr b a ((r.pending.map Item.code).toList ++ k)) cs { w with heap:=w.heap.setIfInBounds l (.loop { r with state:=.exhausted }) }):=by
  have hrun:(Instr.endLoop l).run P w=.ok r.pending { w with heap:=w.heap.setIfInBounds l (.loop { r with state:=.exhausted }) } := by
    simp [Instr.endLoop,Instr.getLoop,getObj,setObj,Sem.run,h]
    exact fun e=>absurd e hs
  exact step_lone_go (by simp [stepG,stepG.exec,fr,hrun])
end
end Go.Ev
namespace Go.Ev
section
variable {E:Env}
theorem start_ok {w0:World} {K:Nat→Prop} {ρ:Ren} {t:Task} {params:Array Tmp} {assign body:Code} {a:Act} {w:World} {b:Frame} {cs:List Frame} {h1:Heap} {nx1 l:Nat} {df1:List KDef}
    (he:rangeStart t params assign body=some (h1,nx1,l,df1)) (hr:Runs ρ b cs t.fn t.round) (m:Mid E w0 K ρ t.size t.tm t.df t.h t.nx a w) :
    ∃ c N mark w1 ρ1,(Instr.enterLoop b.fn a.tmps params assign body b.roundOf).run E.P w=.ok (c,mark) w1∧ρ1 l=some (c,N)∧Mid E w0 K ρ1 t.size t.tm df1 h1 nx1 ⟨a.tmps,mark ++ a.defers⟩ w1∧Stp ρ t.h t.nx ρ1 h1 nx1:=by
  obtain ⟨tc,tfn,tsize,tround,ttm,tdf,th,tnx⟩:=t
  simp only at hr m ⊢
  unfold rangeStart at he
  simp only at he
  have hround:=hr.round
  cases tround with
  | some lo =>
    simp only at he hround
    obtain ⟨c0,N0,hlo,hb⟩:=hround
    split at he
    · rename_i q hq
      cases he
      obtain ⟨r0,hw0,_⟩:=loop_img m.rel hq hlo
      have hO:RelO ρ 0 (.loop ⟨true,false,none,tfn,tsize,ttm,params.toList,assign,body,some lo⟩) (.loop { state:=.ready,pending:=none,fn:=b.fn,tmps:=a.tmps,params,assign,body,defers:=r0.defers }) :=
        ⟨_,rfl,⟨rfl,rfl,hr.fn,m.size,m.tms,rfl,rfl,rfl⟩⟩
      have rn:=m.rel.new hO
      have sn:=Stp.new m.rel (w.heap.size,0) (.loop ⟨true,false,none,tfn,tsize,ttm,params.toList,assign,body,some lo⟩)
      refine ⟨w.heap.size,0,[],_,_,?_,Ren.add_self _ _ _,⟨rn,m.tms.mono sn.sub,by simpa using m.dfs.mono sn.sub,m.size⟩,sn⟩
      rw [hb]
      simp [Instr.enterLoop,Instr.getLoop,getObj,Sem.run,hw0]
    · cases he
  | none =>
    simp only at he hround
    cases he
    have hO1:RelO ρ 0 .deferred (.deferred (some [])):=rfl
    have r1:=m.rel.new hO1
    have s1:=Stp.new m.rel (w.heap.size,0) .deferred
    have hO:RelO (ρ.add tnx (w.heap.size,0)) 0 (.loop ⟨true,false,none,tfn,tsize,ttm,params.toList,assign,body,none⟩) (.loop { state:=.ready,pending:=none,fn:=b.fn,tmps:=a.tmps,params,assign,body,defers:=w.heap.size }) :=
      ⟨_,rfl,⟨rfl,rfl,hr.fn,m.size,m.tms.mono s1.sub,rfl,rfl,rfl⟩⟩
    have r2:=r1.new hO
    have s2:=Stp.new r1 ((w.heap.push (.deferred (some []))).size,0) (.loop ⟨true,false,none,tfn,tsize,ttm,params.toList,assign,body,none⟩)
    refine ⟨(w.heap.push (.deferred (some []))).size,0,[{ target:=.collected w.heap.size,args:=#[] }],_,_,?_,Ren.add_self _ _ _,⟨r2,(m.tms.mono s1.sub).mono s2.sub,?_,m.size⟩,s1.trans s2⟩
    · rw [hround]
      simp only [Instr.enterLoop,Sem.run_bind,run_newObj,Sem.run_pure,Result.andThen_ok]
    · simp only [List.singleton_append,RelDs]
      exact ⟨_,_,rfl,⟨w.heap.size,0,s2.sub _ _ (Ren.add_self _ _ _),rfl⟩,(m.dfs.mono s1.sub).mono s2.sub⟩
theorem fr_finish_range (b:Frame) (a:Act) (l:Nat) (k:List Item) (v:Value):(fr b a (.inRangeFunc l :: k)).finish v=fr b a (.endRangeFunc l :: k):=rfl
theorem range_ok (hN:NamesOk E.P) {call:CallF} (hcall:CallOk E call) {ih:Task→Res} (hih:ExOk E ih) (p:Parts) (hp:p.range=rangeK ih call):RangeOk E p:=by
  intro t f params assign body e tm' df' h' nx' he htc w0 K b k cs a w ρ hr m
  rw [hp] at he
  unfold rangeK at he
  split at he
  · cases he
  · rename_i h1 nx1 l df1 hst
    obtain ⟨c,N,mark,w1,ρ1,g1,g2,m1,st1⟩:=start_ok hst hr m
    split at he
    · rename_i fn first captured hf
      split at he
      · rename_i g
        have hfv:=m1.ops [f] f (by simp) _ hf
        simp only [RelV] at hfv
        obtain ⟨fn',fs',cs',q1,q2,q3,q4⟩:=hfv
        simp only [RelFn] at q1
        subst q1
        have hev:a.eval f=.func (.func g) fs' cs':=q2
        split at he
        · cases he
        · rename_i v h2 nx2 hc
          obtain ⟨⟨fnn,hff,hbody⟩,hsound⟩:=hcall _ _ _ _ _ _ _ hc
          have hy:RelVs ρ1 [.func (.yield l) [] []] [Value.func (.yield c) #[] #[]]:=by
            simp only [RelVs,RelV,RelFn]
            exact ⟨_,_,rfl,⟨_,_,_,⟨c,N,g2,rfl⟩,rfl,by simp,by simp⟩,rfl⟩
          have hargs:RelVs ρ1 (first ++ [.func (.yield l) [] []] ++ captured) (fs' ++ #[Value.func (.yield c) #[] #[]] ++ cs').toList:=by
            rw [Array.toList_append,Array.toList_append]
            exact (q3.append hy).append q4
          have henter:=callFunc_enter hN hff hbody (fs' ++ #[Value.func (.yield c) #[] #[]] ++ cs') w1
          have hcallrun:((do let d ← resolve a.eval { callee:=.value f,args:=#[.const (.func (.yield c) #[] #[])],argTypes:=#[] } 0;invoke d.target d.args:Sem Next)).run E.P w1=.ok (.enter g (fs' ++ #[Value.func (.yield c) #[] #[]] ++ cs')) w1:=by
            have hmap:Array.map a.eval #[Operand.const (Value.func (.yield c) #[] #[])]=#[Value.func (.yield c) #[] #[]]:=by simp [Act.eval]
            simp only [resolve,hev,hmap,Deferred.ofValue,Sem.run_bind,Sem.run_pure,Result.andThen_ok,invoke]
            exact henter
          have s0:=st_range (P:=E.P) (b:=b) (k:=k) (cs:=cs) g1 hcallrun
          obtain ⟨fin,w2,ρ2,v',s1,s2,r2,st2,_⟩:=hsound w0 K ρ1 w1 _ m1.rel hargs .normal (fr b ⟨a.tmps,mark ++ a.defers⟩ (.inRangeFunc c :: k) :: cs) (.inl rfl)
          have s3:=step_fin (c:=fr b ⟨a.tmps,mark ++ a.defers⟩ (.inRangeFunc c :: k)) (cs:=cs) s2
          rw [fr_finish_range] at s3
          have m2:=m1.go r2 st2
          split at he
          · rename_i r hl
            obtain ⟨r',hw,hL⟩:=loop_img r2 hl (st2.sub _ _ g2)
            split at he
            · rename_i hready
              have hs:r'.state≠.busy:=by
                rw [hL.state]
                cases hrd:r.ready <;> cases hdn:r.done <;> simp_all
              have s4:=st_endRange (P:=E.P) (b:=b) (a:=⟨a.tmps,mark ++ a.defers⟩) (k:=k) (cs:=cs) hw hs
              have r3:=r2.drop hl rfl (st2.sub _ _ g2) (.loop { r' with state:=.exhausted })
              have m3:Mid E w0 K ρ2 t.size t.tm df1 (h2.put l none) nx2 ⟨a.tmps,mark ++ a.defers⟩ { w2 with heap:=w2.heap.setIfInBounds c (.loop { r' with state:=.exhausted }) } := ⟨r3,m2.tms,m2.dfs,m2.size⟩
              have upto:=Steps.head s0 (s1.trans (.head s3 (.one s4)))
              have stp:=(st1.trans st2).trans (Stp.set (o:=none) (st2.sub _ _ g2))
              rw [htc]
              split at he
              · rename_i hj
                cases he
                have hk:(r'.pending.map Item.code).toList ++ k=k:=by rw [hL.pending,hj];rfl
                rw [hk] at upto
                exact ⟨_,_,ρ2,upto,m3,stp⟩
              · rename_i cj hj
                have hk:(r'.pending.map Item.code).toList ++ k=.code cj :: k:=by rw [hL.pending,hj];rfl
                rw [hk] at upto
                obtain ⟨a4,w4,ρ4,p1,p2,p3⟩:=hih _ _ _ _ _ _ he w0 K b k cs _ _ ρ2 (hr.mono (st1.trans st2).sub) m3
                exact ⟨a4,w4,ρ4,.of_steps upto p1,p2,stp.trans p3⟩
            · cases he
          · cases he
      · cases he
    · cases he
end
end Go.Ev
namespace Go.Ev
structure Lv where
  ex:Task→Res
  call:CallF
abbrev DrawF:=CallF→YieldF→(round:Bool)→(size:Nat)→Array Oper→PT KV→List KDef→Heap→Nat→SR
noncomputable def partsOf (E:Env) (draw:DrawF) (v:Lv):Parts :=
  { call:=v.call,yield:=yieldBody E v.ex,draw:=draw v.call (yieldBody E v.ex),range:=rangeK v.ex v.call }
def DrawsOk (E:Env) (draw:DrawF):Prop:=∀ (call:CallF) (yield:YieldF) (range:Task→Operand→Array Tmp→Code→Code→Res),CallOk E call→YieldOk E yield→DrawOk E ⟨call,yield,draw call yield,range⟩
end Go.Ev
namespace Go.Ev
def undone (ops:Array Oper) (listed:Array Bool):Nat:=(List.range ops.size).countP fun i => !listed.getD i true
theorem countP_lt {α:Type} (p q:α→Bool) : ∀ (l:List α),(∀ x ∈ l,q x=true→p x=true)→(∃ x ∈ l,p x=true∧q x=false)→l.countP q<l.countP p
  | [],_,⟨x,hx,_⟩=>by simp at hx
  | a :: r,h,⟨x,hx,h1,h2⟩=>by
    have hle:r.countP q≤r.countP p:=List.countP_mono_left fun x hx hq=>h x (by simp [hx]) hq
    rcases List.mem_cons.1 hx with rfl | hx
    · simp only [List.countP_cons,h1,h2]
      simp;omega
    · have ih:=countP_lt p q r (fun y hy=>h y (by simp [hy])) ⟨x,hx,h1,h2⟩
      simp only [List.countP_cons]
      by_cases hq:q a=true
      · simp [hq,h a (by simp) hq];omega
      · by_cases hp:p a=true <;> simp [hq,hp] <;> omega
theorem undone_lt {md:Region.Mode} {ops:Array Oper} {listed:Array Bool} {i:Nat} (h:i ∈ Region.ready md ops listed):undone ops (listed.setIfInBounds i true)<undone ops listed:=by
  obtain ⟨h0,o,ho,_⟩:=mem_ready.1 h
  have hi:i<ops.size:=(Array.getElem?_eq_some_iff.1 ho).1
  have hl:i<listed.size:=by
    rcases Nat.lt_or_ge i listed.size with h' | h'
    · exact h'
    · simp [Array.getElem?_eq_none h'] at h0
  refine countP_lt _ _ _ (fun x _ hq => ?_) ⟨i,by simpa using hi,by simp only [h0];rfl,by simp [hl]⟩
  by_cases hxi:i=x
  · subst hxi;simp [hl] at hq
  · rw [getD_set_ne true hxi] at hq;exact hq
theorem ready_none {md:Region.Mode} {ops:Array Oper} {listed:Array Bool} (h:undone ops listed=0):Region.ready md ops listed=[]:=by
  cases hr:Region.ready md ops listed with
  | nil=>rfl
  | cons i r =>
    have:=undone_lt (md:=md) (ops:=ops) (listed:=listed) (i:=i) (by rw [hr];simp)
    omega
theorem lin_ok {P:Program} {md:Region.Mode} {ops:Array Oper} {b:Frame} {cs:List Frame} {k:List Item} (Inv:Array Bool→Act→World→Prop)
    (hstep : ∀ listed a w i,Inv listed a w→i ∈ Region.ready md ops listed → ∀ rest,∃ a' w',Steps P (lone (fr b a (.inRegion ops (i :: rest) :: k)) cs w) (lone (fr b a' (.inRegion ops rest :: k)) cs w')∧Inv (listed.setIfInBounds i true) a' w') :
    ∀ (fuel t:Nat) (listed:Array Bool) (a:Act) (w:World),Inv listed a w→undone ops listed≤fuel →
      ∃ a' w' listed',Steps P (lone (fr b a (.inRegion ops (Region.linearise.go md ops fuel t listed []) :: k)) cs w) (lone (fr b a' k) cs w')∧Inv listed' a' w'∧Region.ready md ops listed'=[]:=by
  intro fuel
  induction fuel with
  | zero =>
    intro t listed a w h hf
    exact ⟨a,w,listed,by simp only [Region.linearise.go,List.reverse_nil];exact .one st_region_end,h,ready_none (by omega)⟩
  | succ fuel ih =>
    intro t listed a w h hf
    simp only [Region.linearise.go]
    change ∃ a' w' listed',Steps P (lone (fr b a (.inRegion ops (match (Region.ready md ops listed)[t % (Region.ready md ops listed).length]? with
      | some i=>Region.linearise.go md ops fuel (t / (Region.ready md ops listed).length) (listed.setIfInBounds i true) [i]
      | none=>[].reverse) :: k)) cs w) (lone (fr b a' k) cs w')∧Inv listed' a' w'∧Region.ready md ops listed'=[]
    cases hi:(Region.ready md ops listed)[t % (Region.ready md ops listed).length]? with
    | none =>
      have hnil:Region.ready md ops listed=[]:=by
        cases hr:Region.ready md ops listed with
        | nil=>rfl
        | cons x xs =>
          rw [hr] at hi
          have hlt:t % (x :: xs).length<(x :: xs).length:=Nat.mod_lt _ (by simp)
          rw [List.getElem?_eq_getElem hlt] at hi
          cases hi
      exact ⟨a,w,listed,.one st_region_end,h,hnil⟩
    | some i =>
      have hm:=List.mem_of_getElem? hi
      simp only []
      rw [linearise_go_acc,List.reverse_singleton,List.singleton_append]
      obtain ⟨a1,w1,s1,h1⟩:=hstep listed a w i h hm _
      have hlt:=undone_lt hm
      obtain ⟨a2,w2,l2,s2,h2,h3⟩:=ih (t / (Region.ready md ops listed).length) _ a1 w1 h1 (by omega)
      exact ⟨a2,w2,l2,s1.trans s2,h2,h3⟩
end Go.Ev
namespace Go.Ev
theorem undone_all (ops:Array Oper):undone ops (Array.replicate ops.size false)≤ops.size:=by
  unfold undone
  have:=List.countP_le_length (p:=fun i => !(Array.replicate ops.size false).getD i true) (l:=List.range ops.size)
  simpa using this
theorem drawn_ok {P:Program} (hm:P.follows .mixedOrders=true) {ops:Array Oper} {b:Frame} {cs:List Frame} {k:List Item} {id:Nat} {a:Act} {w:World} (Inv:Array Bool→Act→World→Prop)
    (hstart:Inv (Array.replicate ops.size false) a { w with drawn:=w.drawn+1 })
    (hstep : ∀ listed a w i,Inv listed a w→i ∈ Region.ready .any ops listed → ∀ rest,∃ a' w',Steps P (lone (fr b a (.inRegion ops (i :: rest) :: k)) cs w) (lone (fr b a' (.inRegion ops rest :: k)) cs w')∧Inv (listed.setIfInBounds i true) a' w') :
    ∃ a' w' listed',Steps P (lone (fr b a (.code (.region id ops true) :: k)) cs w) (lone (fr b a' k) cs w')∧Inv listed' a' w'∧Region.ready .any ops listed'=[]:=by
  obtain ⟨a',w',l',s1,h1,h2⟩:=lin_ok Inv hstep ops.size (w.tape w.drawn (.order b.fn id)) _ a _ hstart (undone_all ops)
  refine ⟨a',w',l',.head st_region_draw ?_,h1,h2⟩
  simp only [Region.schedule,hm,Bool.true_or,if_true,Region.linearise]
  exact s1
end Go.Ev
namespace Go.Ev
def bit (n i:Nat):Bool:=Nat.beq (Nat.mod (Nat.shiftRight n i) 2) 1
theorem bit_eq (n i:Nat):bit n i=n.testBit i:=by
  have h1:n.testBit i=decide (n / 2 ^ i % 2=1):=by rw [Nat.testBit_eq_decide_div_mod_eq]
  rw [h1]
  show Nat.beq ((n >>> i) % 2) 1=_
  rw [Nat.shiftRight_eq_div_pow,Bool.eq_iff_iff]
  simp
def isMajorOp:Op→Bool
  | .store _ _ _=>true
  | .mapUpdate _ _ _ _=>true
  | .defer _=>true
  | .panic _=>true
  | .call c=>match c.callee with
    | .value _=>true
    | .invoke _ _=>true
    | .builtin b=>match b with
      | .len=>false
      | .cap=>false
      | .min=>false
      | .max=>false
      | _=>true
  | _=>false
def tmpsOf:List Operand→List Tmp
  | []=>[]
  | .tmp t :: r=>t :: tmpsOf r
  | _ :: r=>tmpsOf r
def memNat:Nat→List Nat→Bool
  | _,[]=>false
  | n,m :: r=>match Nat.beq n m with | true=>true | false=>memNat n r
theorem memNat_iff (n:Nat) : ∀ (l:List Nat),memNat n l=true ↔ n ∈ l
  | []=>by simp [memNat]
  | m :: r=>by
    simp only [memNat]
    cases h:Nat.beq n m
    · have hne:n≠m:=fun e=>by subst e;simp at h
      simp [memNat_iff n r,hne]
    · have:=Nat.eq_of_beq_eq_true h
      simp [this]
theorem tmpsOf_iff (t:Tmp) : ∀ (l:List Operand),t ∈ tmpsOf l ↔ Operand.tmp t ∈ l
  | []=>by simp [tmpsOf]
  | x :: r=>by
    cases x <;> simp [tmpsOf,tmpsOf_iff t r]
end Go.Ev
namespace Go.Ev
def SameAt (tm tm':PT KV) (l:List Operand):Prop:=∀ x ∈ l,evalK tm x=evalK tm' x
theorem evalsK_congr {tm tm':PT KV} : ∀ {l:List Operand},SameAt tm tm' l→evalsK tm l=evalsK tm' l
  | [],_=>rfl
  | x :: r,h=>by
    simp only [evalsK,h x (by simp),evalsK_congr (l:=r) fun y hy=>h y (by simp [hy])]
theorem evalParts_congr {tm tm':PT KV} : ∀ {l:List (Nat × Operand)},SameAt tm tm' (l.map (·.2))→evalParts tm l=evalParts tm' l
  | [],_=>rfl
  | (i,x) :: r,h=>by
    simp only [evalParts,h x (by simp),evalParts_congr (l:=r) fun y hy=>h y (by simp;simp at hy;exact .inr hy)]
theorem allocK_congr {P:Program} {tm tm':PT KV} {o:Op} (h:SameAt tm tm' o.operands.toList):allocK P tm o=allocK P tm' o:=by
  cases o <;> simp only [allocK]
  case box t x=>rw [h x (by simp [Op.operands])]
  case buildSlice t len parts =>
    rw [evalParts_congr (tm:=tm) (tm':=tm') (l:=parts.toList) fun y hy=>h y (by simp only [Op.operands];simpa using hy)]
  case makeSlice t l c=>rw [h l (by simp [Op.operands]),h c (by simp [Op.operands])]
  case convert s d x=>rw [h x (by simp [Op.operands])]
theorem optEval_congr {tm tm':PT KV} {x:Option Operand} (h : ∀ y,x=some y→evalK tm y=evalK tm' y):optEval tm x=optEval tm' x:=by
  cases x with
  | none=>rfl
  | some y=>simp only [optEval,h y rfl]
theorem pureK_congr {P:Program} {tm tm':PT KV} {hp:Heap} {o:Op} (h:SameAt tm tm' o.operands.toList):pureK P tm hp o=pureK P tm' hp o:=by
  cases o <;> simp only [pureK]
  case move x | assign x | nilCheck x | makeInterface t x=>rw [h x (by simp [Op.operands])]
  case pick c a b=>rw [h c (by simp [Op.operands]),h a (by simp [Op.operands]),h b (by simp [Op.operands])]
  case build t parts =>
    rw [evalParts_congr (tm:=tm) (tm':=tm') (l:=parts.toList) fun y hy=>h y (by simp only [Op.operands];simpa using hy)]
  case load t a=>rw [h a (by simp [Op.operands])]
  case binOp op t x y yt=>rw [h x (by simp [Op.operands]),h y (by simp [Op.operands])]
  case unOp op t x=>rw [h x (by simp [Op.operands])]
  case convert s d x=>rw [h x (by simp [Op.operands])]
  case makeFunc fn first captured =>
    rw [evalsK_congr (tm:=tm) (tm':=tm') (l:=first.toList) fun y hy=>h y (by simp [Op.operands];simp at hy;exact .inl hy),
      evalsK_congr (tm:=tm) (tm':=tm') (l:=captured.toList) fun y hy=>h y (by simp [Op.operands];simp at hy;exact .inr hy)]
  case slice t x lo hi mx =>
    rw [h x (by simp [Op.operands]),optEval_congr (tm:=tm) (tm':=tm') (x:=lo) fun y hy=>h y (by subst hy;simp [Op.operands]),
      optEval_congr (tm:=tm) (tm':=tm') (x:=hi) fun y hy=>h y (by subst hy;simp [Op.operands]),optEval_congr (tm:=tm) (tm':=tm') (x:=mx) fun y hy=>h y (by subst hy;simp [Op.operands])]
  case fieldAddr s x f=>rw [h x (by simp [Op.operands])]
  case field t x f=>rw [h x (by simp [Op.operands])]
  case indexAddr t x i=>rw [h x (by simp [Op.operands]),h i (by simp [Op.operands])]
  case index t x i=>rw [h x (by simp [Op.operands]),h i (by simp [Op.operands])]
  case lookup t x i ok=>rw [h x (by simp [Op.operands]),h i (by simp [Op.operands])]
  case typeAssert x xt t ok=>rw [h x (by simp [Op.operands])]
  case extract t i=>rw [h t (by simp [Op.operands])]
  case call c =>
    rw [evalsK_congr (tm:=tm) (tm':=tm') (l:=c.args.toList) fun y hy=>h y (by
      simp only [Op.operands,Call.operands]
      have:y ∈ c.args:=by simpa using hy
      simp [this])]
end Go.Ev
namespace Go.Ev
def Closed (ops:Array Oper) (listed:Array Bool):Prop:=∀ i o,ops[i]?=some o→listed.getD i false=true → ∀ e ∈ o.after,Region.binds .any e=true→listed.getD e.on false=true
theorem Closed.start (ops:Array Oper):Closed ops (Array.replicate ops.size false):=fun i o hi h=>by
  have hlt:i<ops.size:=(Array.getElem?_eq_some_iff.1 hi).1
  simp [hlt] at h
theorem Closed.step {ops:Array Oper} {listed:Array Bool} (hc:Closed ops listed) {i:Nat} (h:i ∈ Region.ready .any ops listed):Closed ops (listed.setIfInBounds i true):=by
  intro j o hj hl e he hb
  refine getD_set_true ?_
  by_cases hij:i=j
  · subst hij
    obtain ⟨_,o',ho',hall⟩:=mem_ready.1 h
    rw [hj] at ho'
    cases ho'
    exact hall e he hb
  · rw [getD_set_ne false hij] at hl
    exact hc j o hj hl e he hb
end Go.Ev
namespace Go.Ev
mutual
def kvEq:KV→KV→Bool
  | .int k a,.int k' b=>match kindEq k k' with | true=>eqI a b | false=>false
  | .bool a,.bool b=>match a,b with | true,true=>true | false,false=>true | _,_=>false
  | .str l n,.str m o=>strEq l n m o
  | .ptr a o,.ptr b p=>match Nat.beq a b with | true=>Nat.beq o p | false=>false
  | .nilptr,.nilptr=>true
  | .slice b o l c e x,.slice b' o' l' c' e' x'=>Nat.beq b b' && Nat.beq o o' && Nat.beq l l' && Nat.beq c c' && Nat.beq e e' && x == x'
  | .eslice,.eslice=>true
  | .nilslice,.nilslice=>true
  | .map a,.map b=>Nat.beq a b
  | .nilmap,.nilmap=>true
  | .func f a b,.func g c d=>decide (f=g) && kvsEq a c && kvsEq b d
  | .nilfunc,.nilfunc=>true
  | .iface t v,.iface u w=>match Nat.beq t u with | true=>kvEq v w | false=>false
  | .niliface,.niliface=>true
  | .agg a,.agg b=>kvsEq a b
  | .tuple a,.tuple b=>kvsEq a b
  | _,_=>false
def kvsEq:List KV→List KV→Bool
  | [],[]=>true
  | a :: r,b :: s=>match kvEq a b with | true=>kvsEq r s | false=>false
  | _,_=>false
end
mutual
theorem kvEq_eq : ∀ (a b:KV),kvEq a b=true→a=b
  | a,b,h=>by
    unfold kvEq at h
    split at h
    · split at h
      · rename_i hk
        have:_=_:=of_decide_eq_true hk
        rw [this,(eqI_iff _ _).1 h]
      · cases h
    · split at h <;> first | rfl | cases h
    · unfold strEq at h
      split at h
      · rename_i h1
        rw [Nat.eq_of_beq_eq_true h1,Nat.eq_of_beq_eq_true h]
      · cases h
    · split at h
      · rename_i h1
        rw [Nat.eq_of_beq_eq_true h1,Nat.eq_of_beq_eq_true h]
      · cases h
    · rfl
    · simp only [Bool.and_eq_true,beq_iff_eq] at h
      obtain ⟨⟨⟨⟨⟨h1,h2⟩,h3⟩,h4⟩,h5⟩,h6⟩:=h
      rw [Nat.eq_of_beq_eq_true h1,Nat.eq_of_beq_eq_true h2,Nat.eq_of_beq_eq_true h3,Nat.eq_of_beq_eq_true h4,Nat.eq_of_beq_eq_true h5,h6]
    · rfl
    · rfl
    · rw [Nat.eq_of_beq_eq_true h]
    · rfl
    · simp only [Bool.and_eq_true,decide_eq_true_eq] at h
      obtain ⟨⟨h1,h2⟩,h3⟩:=h
      rw [h1,kvsEq_eq _ _ h2,kvsEq_eq _ _ h3]
    · rfl
    · split at h
      · rename_i h1
        rw [Nat.eq_of_beq_eq_true h1,kvEq_eq _ _ h]
      · cases h
    · rfl
    · rw [kvsEq_eq _ _ h]
    · rw [kvsEq_eq _ _ h]
    · cases h
theorem kvsEq_eq : ∀ (a b:List KV),kvsEq a b=true→a=b
  | [],[],_=>rfl
  | a :: r,b :: s,h=>by
    simp only [kvsEq] at h
    split at h
    · rename_i h1
      rw [kvEq_eq _ _ h1,kvsEq_eq _ _ h]
    · cases h
  | [],_ :: _,h=>by simp [kvsEq] at h
  | _ :: _,[],h=>by simp [kvsEq] at h
end
end Go.Ev
