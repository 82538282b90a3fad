/- The executor T: regions whose order is open; T is sound: what it comes to, the model comes to. -/
import Derived.Test.YtelkghkaalmhoaaGreatDoorTb

/-
An operation depends on its operands alone.
-/
namespace Go.TX

theorem evs_cong {tm tm' : Tm} : ∀ {l : List Operand}, (∀ x ∈ l, ev tm x = ev tm' x) → evs tm l = evs tm' l
  | [], _ => rfl
  | x :: l, h => by simp only [evs]; rw [h x (by simp), evs_cong (fun y hy => h y (by simp [hy]))]
theorem parts_cong {tm tm' : Tm} : ∀ {l : List (Nat × Operand)}, (∀ x ∈ l, ev tm x.2 = ev tm' x.2) → parts tm l = parts tm' l
  | [], _ => rfl
  | (i, x) :: l, h => by simp only [parts]; rw [h (i, x) (by simp), parts_cong (fun y hy => h y (by simp [hy]))]
theorem optEv_cong {tm tm' : Tm} {o : Option Operand} (h : ∀ x, o = some x → ev tm x = ev tm' x) : optEv tm o = optEv tm' o := by
  cases o with
  | none => rfl
  | some x => simp only [optEv]; rw [h x rfl]

theorem runOp_cong {E : Env} {ex : Ex} {S : TS} {tm tm' : Tm} {o : Oper} (h : ∀ x ∈ o.op.operands, ev tm x = ev tm' x) : runOp E ex S tm o = runOp E ex S tm' o ∧ footOf tm o.op = footOf tm' o.op := by
  unfold runOp
  cases ho : o.op <;> rw [ho] at h <;> simp only [Op.operands] at h <;> simp only [opFn, footOf] <;> first
    | (simp only [xNone, and_self]; done)
    | skip
  case call c =>
    simp only [Call.operands] at h
    cases hc : c.callee with
    | builtin b =>
      rw [hc] at h
      have := evs_cong (tm := tm) (tm' := tm') (l := c.args.toList) (fun x hx => h x (by simpa using hx))
      simp only [xCall, hc, xCallee, xBuiltin, this, and_self]
    | value f =>
      rw [hc] at h
      have e1 := evs_cong (tm := tm) (tm' := tm') (l := c.args.toList) (fun x hx => h x (by simp; exact .inr (by simpa using hx)))
      have e2 := h f (by simp)
      simp only [xCall, hc, xCallee, e1, e2, and_self]
    | invoke r n => simp only [xCall, hc, xCallee, and_self]
  case build t ps =>
    have : parts tm ps.toList = parts tm' ps.toList := parts_cong (fun x hx => h x.2 (by simp; exact ⟨x.1, by simpa using hx⟩))
    simp only [xBuild, bBuild, this, and_self]
  case buildSlice t n ps =>
    have : parts tm ps.toList = parts tm' ps.toList := parts_cong (fun x hx => h x.2 (by simp; exact ⟨x.1, by simpa using hx⟩))
    simp only [xBuildSlice, bSliceOf, this, and_self]
  case makeFunc fn xs ys =>
    have e1 := evs_cong (tm := tm) (tm' := tm') (l := xs.toList) (fun x hx => h x (by simp; exact .inl (by simpa using hx)))
    have e2 := evs_cong (tm := tm) (tm' := tm') (l := ys.toList) (fun x hx => h x (by simp; exact .inr (by simpa using hx)))
    simp only [xFn, e1, e2, and_self]
  case makeMap t r =>
    have := optEv_cong (tm := tm) (tm' := tm') (o := r) (fun x e => h x (by simp [e]))
    simp only [xMakeMap, this, and_self]
  case slice t x lo hi mx =>
    have e0 := h x (by simp)
    have e1 := optEv_cong (tm := tm) (tm' := tm') (o := lo) (fun x e => h x (by simp [e]))
    have e2 := optEv_cong (tm := tm) (tm' := tm') (o := hi) (fun x e => h x (by simp [e]))
    have e3 := optEv_cong (tm := tm) (tm' := tm') (o := mx) (fun x e => h x (by simp [e]))
    simp only [xSlice, e0, e1, e2, e3, and_self]
  all_goals
    simp only [List.mem_toArray, List.mem_cons, List.not_mem_nil, or_false, forall_eq_or_imp, forall_eq] at h
    simp only [xMove, xPick, xAlloc, xBox, xMapPut, xLoad, xStore, xNil, xBin, xUn, xConvert, xIface, xMakeSlice, xFieldAddr, xField, xIndexAddr, xIndex, xLookup, xRange, xNext, xEntry, xAssert, xExtract, h, and_self]
end Go.TX

/-
A region of open order: the trace of the executor's run.
-/
namespace Go.TX

/-- One operation, as the executor went through it. -/
structure Ev where
  d : DOp
  tm0 : Tm
  tm1 : Tm
  S0 : TS
  S1 : TS
  ran : Bool
  v : TV
  wr : List Nat

noncomputable def Ev.mark (e : Ev) : ORec := { k := e.d.k, lo := e.S0.next, hi := e.S1.next, wr := e.wr, foot := footOf e.tm0 e.d.o.op, call := isCall e.d.o.op }
/-- What stands in the records behind these. -/
noncomputable def recsOf : List Ev → List ORec → List ORec
  | [], rs => rs
  | e :: l, rs => recsOf l (if e.ran then e.mark :: rs else rs)

/-- One is a right step of the executor's. -/
structure EvOk (E : Env) (ex : Ex) (nt : Nat) (ops : Array Oper) (F : List (Nat × Nat)) (rs : List ORec) (e : Ev) : Prop where
  forb : e.S0.forb = F
  want : wantedT ops e.tm0 e.d.o = some e.ran
  put : putT nt e.tm0 e.d.o.dst e.v = some e.tm1
  skip : e.ran = false → e.v = .tup [] ∧ e.S1 = e.S0 ∧ e.wr = []
  run : e.ran = true → ∃ S', runOp E ex { e.S0 with forb := hidden e.d.bef rs ++ F, wlog := [] } e.tm0 e.d.o = some [(e.v, S')] ∧ e.S1 = { S' with forb := F, wlog := S'.wlog ++ e.S0.wlog } ∧ e.wr = oldsOf e.S0.next S'.wlog ∧
    (e.wr = [] ∨ calm e.d.bef e.wr rs = true) ∧ mayLay e.d.bef e.S0.next S'.next rs = true

/-- They follow each other. -/
def Chain (E : Env) (ex : Ex) (nt : Nat) (ops : Array Oper) (F : List (Nat × Nat)) : List Ev → List ORec → Tm → TS → Tm → TS → Prop
  | [], _, tm, S, tm', S' => tm' = tm ∧ S' = S
  | e :: l, rs, tm, S, tm', S' => e.tm0 = tm ∧ e.S0 = S ∧ EvOk E ex nt ops F rs e ∧ Chain E ex nt ops F l (if e.ran then e.mark :: rs else rs) e.tm1 e.S1 tm' S'

theorem runDraw_trace {E : Env} {ex : Ex} {nt : Nat} {ops : Array Oper} : ∀ {pl : List DOp} {tm : Tm} {S : TS} {rs : List ORec} {l : List (Tm × TS)}, runDraw E ex nt ops pl tm S rs = some l →
    ∃ evs tm' S', l = [(tm', S')] ∧ evs.map (·.d) = pl ∧ Chain E ex nt ops S.forb evs rs tm S tm' S'
  | [], tm, S, rs, l, h => by simp only [runDraw, M.one, Option.some.injEq] at h; exact ⟨[], tm, S, h.symm, rfl, rfl, rfl⟩
  | d :: pl, tm, S, rs, l, h => by
    simp only [runDraw, hide_eq, back_eq] at h
    split at h
    · cases h
    · rename_i hw
      split at h
      · cases h
      · rename_i tm1 hp
        obtain ⟨evs, tm', S', h1, h2, h3⟩ := runDraw_trace h
        exact ⟨{ d := d, tm0 := tm, tm1 := tm1, S0 := S, S1 := S, ran := false, v := .tup [], wr := [] } :: evs, tm', S', h1, by simp [h2], rfl, rfl,
          ⟨rfl, hw, hp, fun _ => ⟨rfl, rfl, rfl⟩, fun e => by cases e⟩, h3⟩
    · rename_i hw
      split at h
      · rename_i r hr
        split at h
        · rename_i tm1 hp hcalm hlay
          obtain ⟨evs, tm', S', h1, h2, h3⟩ := runDraw_trace h
          refine ⟨{ d := d, tm0 := tm, tm1 := tm1, S0 := S, S1 := { r.2 with forb := S.forb, wlog := r.2.wlog ++ S.wlog }, ran := true, v := r.1, wr := oldsOf S.next r.2.wlog } :: evs, tm', S', h1, by simp [h2], rfl, rfl,
            ⟨rfl, hw, hp, fun e => (by cases e), fun _ => ⟨r.2, hr, rfl, rfl, ?_, hlay⟩⟩, h3⟩
          split at hcalm
          · rename_i e; exact .inl e
          · exact .inr hcalm
        · cases h
      · cases h
end Go.TX

/-
The executor's own facts: what is new lies behind, what is not written is as it was.
-/
namespace Go.TX

def TF (S S' : TS) : Prop := Turn S.heap.get S S'.heap.get S' ∧ Low S'
theorem TF.refl {S : TS} (h : Low S) : TF S S := ⟨Turn.refl _ S, h⟩
theorem TF.trans {S S1 S2 : TS} (h : TF S S1) (k : TF S1 S2) : TF S S2 := ⟨h.1.trans k.1, k.2⟩
theorem tf_put {S : TS} {i : Nat} {o o0 : TObj} (hl : Low S) (hg : S.get i = some o0) : TF S (S.put i o) := by
  obtain ⟨t, l⟩ := turn_put (K := S.heap.get) (o := o) hl hg
  refine ⟨?_, l⟩
  have : upd S.heap.get i o = (S.put i o).heap.get := by
    funext j
    have e : (S.put i o).heap.get j = if j = i then some o else S.heap.get j := Tree.get_set o S.heap i j (Nat.lt_of_lt_of_le (hl.lt hg) hl.2)
    rw [e]; rfl
  rw [← this]; exact t
theorem tf_new {S : TS} {o : TObj} (hl : Low S) (hr : S.room = true) : TF S (S.new o) := by
  obtain ⟨t, l⟩ := turn_new (K := S.heap.get) (o := o) hl hr
  refine ⟨?_, l⟩
  have : upd S.heap.get S.next o = (S.new o).heap.get := by
    funext j
    have e : (S.new o).heap.get j = if j = S.next then some o else S.heap.get j := Tree.get_set o S.heap S.next j (room_spec hr).1
    rw [e]; rfl
  rw [← this]; exact t
theorem tf_wr {S S' : TS} {i off : Nat} {l : List TV} (hl : Low S) (h : wr S i off l = some S') : TF S S' := by
  unfold wr at h
  split at h
  · cases h
  · split at h
    · rename_i hg
      split at h
      · cases h; exact tf_put hl hg
      · cases h
    · cases h
theorem tf_alloc {S S' : TS} {l : List TV} {fz : Bool} {i : Nat} (hl : Low S) (h : allocT S l fz = some (i, S')) : TF S S' := by
  unfold allocT at h
  split at h
  · rename_i hr _; cases h; exact tf_new hl hr
  · cases h

theorem tf_append {P : Program} {S S' : TS} {t xt : TypeId} {s x r : TV} (hl : Low S) (h : appendT P S t xt s x = some (r, S')) : TF S S' := by
  unfold appendT at h
  repeat' split at h
  all_goals first
    | (cases h; done)
    | (cases h; exact TF.refl hl)
    | (cases h; rename_i ha; exact tf_alloc hl ha)
    | (cases h; rename_i ha; exact tf_wr hl ha)
    | (cases h
       rename_i ha
       exact (tf_put hl (by assumption)).trans (tf_alloc (tf_put hl (by assumption)).2 ha))

theorem tf_box {S S' : TS} {v : Option TV} {r : TV} (hl : Low S) (h : boxT S v = some (r, S')) : TF S S' := by
  unfold boxT at h; (repeat' split at h) <;> first | (cases h; done) | (cases h; exact TF.refl hl) | (cases h; rename_i ha; exact tf_alloc hl ha) | (cases h; rename_i ha; exact tf_wr hl ha) | (cases h; exact tf_new hl (by assumption)) | (cases h; exact tf_put hl (by assumption))
theorem tf_bs {P : Program} {S S' : TS} {tm : Tm} {t : TypeId} {n : Nat} {ps : List (Nat × Operand)} {r : TV} (hl : Low S) (h : bSliceOf P S tm t n ps = some (r, S')) : TF S S' := by
  unfold bSliceOf at h; (repeat' split at h) <;> first | (cases h; done) | (cases h; exact TF.refl hl) | (cases h; rename_i ha; exact tf_alloc hl ha) | (cases h; rename_i ha; exact tf_wr hl ha) | (cases h; exact tf_new hl (by assumption)) | (cases h; exact tf_put hl (by assumption))
theorem tf_ms {P : Program} {S S' : TS} {t : TypeId} {x y r : TV} (hl : Low S) (h : mkSlice P S t x y = some (r, S')) : TF S S' := by
  unfold mkSlice at h; (repeat' split at h) <;> first | (cases h; done) | (cases h; exact TF.refl hl) | (cases h; rename_i ha; exact tf_alloc hl ha) | (cases h; rename_i ha; exact tf_wr hl ha) | (cases h; exact tf_new hl (by assumption)) | (cases h; exact tf_put hl (by assumption))
theorem tf_mm {P : Program} {S S' : TS} {t : TypeId} {x : Option TV} {r : TV} (hl : Low S) (h : mkMap P S t x = some (r, S')) : TF S S' := by
  unfold mkMap at h; (repeat' split at h) <;> first | (cases h; done) | (cases h; exact TF.refl hl) | (cases h; rename_i ha; exact tf_alloc hl ha) | (cases h; rename_i ha; exact tf_wr hl ha) | (cases h; exact tf_new hl (by assumption)) | (cases h; exact tf_put hl (by assumption))
theorem tf_conv {P : Program} {S S' : TS} {s d : TypeId} {x r : TV} (hl : Low S) (h : convT P S s d x = some (r, S')) : TF S S' := by
  unfold convT at h; (repeat' split at h) <;> first | (cases h; done) | (cases h; exact TF.refl hl) | (cases h; rename_i ha; exact tf_alloc hl ha) | (cases h; rename_i ha; exact tf_wr hl ha) | (cases h; exact tf_new hl (by assumption)) | (cases h; exact tf_put hl (by assumption))
theorem tf_range {P : Program} {S S' : TS} {t : TypeId} {x r : TV} (hl : Low S) (h : rangeT P S t x = some (r, S')) : TF S S' := by
  unfold rangeT at h; (repeat' split at h) <;> first | (cases h; done) | (cases h; exact TF.refl hl) | (cases h; rename_i ha; exact tf_alloc hl ha) | (cases h; rename_i ha; exact tf_wr hl ha) | (cases h; exact tf_new hl (by assumption)) | (cases h; exact tf_put hl (by assumption))
theorem tf_mput {P : Program} {S S' : TS} {t : TypeId} {m k v : TV} (hl : Low S) (h : mapPut P S t m k v = some S') : TF S S' := by
  unfold mapPut at h; (repeat' split at h) <;> first | (cases h; done) | (cases h; exact TF.refl hl) | (cases h; rename_i ha; exact tf_alloc hl ha) | (cases h; rename_i ha; exact tf_wr hl ha) | (cases h; exact tf_new hl (by assumption)) | (cases h; exact tf_put hl (by assumption))
theorem tf_mdel {P : Program} {S S' : TS} {t : TypeId} {m k : TV} (hl : Low S) (h : mapDel P S t m k = some S') : TF S S' := by
  unfold mapDel at h; (repeat' split at h) <;> first | (cases h; done) | (cases h; exact TF.refl hl) | (cases h; rename_i ha; exact tf_alloc hl ha) | (cases h; rename_i ha; exact tf_wr hl ha) | (cases h; exact tf_new hl (by assumption)) | (cases h; exact tf_put hl (by assumption))
theorem tf_store {P : Program} {S S' : TS} {t : TypeId} {a v : TV} (hl : Low S) (h : storeT P S t a v = some S') : TF S S' := by
  unfold storeT at h
  repeat' split at h
  all_goals first | (cases h; done) | exact tf_wr hl h
theorem tf_bif {P : Program} {S S' : TS} {b : Builtin} {f : Bif} {ts : List TypeId} {vs : List TV} {r : TV} (hl : Low S) (hb : bifs b = some f) (h : f P S ts vs = some (r, S')) : TF S S' := by
  cases b <;> simp only [bifs] at hb <;> first | (cases hb; done) | skip
  case len => cases hb; unfold biLen at h; (repeat' split at h) <;> first | (cases h; done) | (cases h; exact TF.refl hl) | (cases h; rename_i ha; exact tf_alloc hl ha) | (cases h; rename_i ha; exact tf_wr hl ha) | (cases h; exact tf_new hl (by assumption)) | (cases h; exact tf_put hl (by assumption))
  case min => cases hb; unfold biMin at h; (repeat' split at h) <;> first | (cases h; done) | (cases h; exact TF.refl hl) | (cases h; rename_i ha; exact tf_alloc hl ha) | (cases h; rename_i ha; exact tf_wr hl ha) | (cases h; exact tf_new hl (by assumption)) | (cases h; exact tf_put hl (by assumption))
  case max => cases hb; unfold biMax at h; (repeat' split at h) <;> first | (cases h; done) | (cases h; exact TF.refl hl) | (cases h; rename_i ha; exact tf_alloc hl ha) | (cases h; rename_i ha; exact tf_wr hl ha) | (cases h; exact tf_new hl (by assumption)) | (cases h; exact tf_put hl (by assumption))
  case clear => cases hb; unfold biClear at h; (repeat' split at h) <;> first | (cases h; done) | (cases h; exact TF.refl hl) | (cases h; rename_i ha; exact tf_alloc hl ha) | (cases h; rename_i ha; exact tf_wr hl ha) | (cases h; exact tf_new hl (by assumption)) | (cases h; exact tf_put hl (by assumption))
  case copy => cases hb; unfold biCopy at h; (repeat' split at h) <;> first | (cases h; done) | (cases h; exact TF.refl hl) | (cases h; rename_i ha; exact tf_alloc hl ha) | (cases h; rename_i ha; exact tf_wr hl ha) | (cases h; exact tf_new hl (by assumption)) | (cases h; exact tf_put hl (by assumption))
  case append => cases hb; unfold biAppend at h; split at h; exact tf_append hl h; cases h
  case delete =>
    cases hb; unfold biDelete at h
    split at h
    · split at h
      · rename_i hd; cases h; exact tf_mdel hl hd
      · cases h
    · cases h
theorem tf_next {S : TS} {x : TV} {b : Bool} {l : List (TV × TS)} (hl : Low S) (h : nextT S x b = some l) : ∀ q ∈ l, TF S q.2 := by
  unfold nextT at h
  repeat' split at h
  all_goals first
    | (cases h; done)
    | (simp only [M.one, Option.some.injEq] at h; subst h; intro q hq; simp at hq; subst hq; first | exact TF.refl hl | exact tf_put hl (by assumption))
    | (simp only [Option.some.injEq] at h; subst h; intro q hq; obtain ⟨e, _, rfl⟩ := List.mem_map.1 hq; exact tf_put hl (by assumption))

/-- Operations that call no function. -/
theorem tf_op {E : Env} {ex : Ex} {S : TS} {tm : Tm} {o : Oper} {l : List (TV × TS)} (hl : Low S) (hc : isCall o.op = false) (h : runOp E ex S tm o = some l) : ∀ q ∈ l, TF S q.2 := by
  have hval : ∀ {v : Option TV}, val v S = some l → ∀ q ∈ l, TF S q.2 := fun h => by
    obtain ⟨r, _, rfl⟩ := val_some h; intro q hq; simp at hq; subst hq; exact TF.refl hl
  have hdid : ∀ {v : Option TS}, (∀ S', v = some S' → TF S S') → did v = some l → ∀ q ∈ l, TF S q.2 := fun hv h => by
    obtain ⟨S', h1, rfl⟩ := did_some h; intro q hq; simp at hq; subst hq; exact hv _ h1
  have hres : ∀ {v : Option (TV × TS)}, (∀ r S', v = some (r, S') → TF S S') → res v = some l → ∀ q ∈ l, TF S q.2 := fun hv h => by
    obtain ⟨r, S', h1, rfl⟩ := res_some h; intro q hq; simp at hq; subst hq; exact hv _ _ h1
  have hone : ∀ {v : TV}, some [(v, S)] = some l → ∀ q ∈ l, TF S q.2 := fun h => by
    cases h; intro q hq; simp at hq; subst hq; exact TF.refl hl
  unfold runOp at h
  cases ho : o.op <;> rw [ho] at h hc <;> simp only [opFn] at h <;> first
    | (simp [xNone] at h; done)
    | exact hval h
    | exact hone h
    | exact tf_next hl h
    | exact hdid (fun _ => tf_store hl) h
    | exact hdid (fun _ => tf_mput hl) h
    | exact hres (fun _ _ => tf_box hl) h
    | exact hres (fun _ _ => tf_bs hl) h
    | exact hres (fun _ _ => tf_ms hl) h
    | exact hres (fun _ _ => tf_mm hl) h
    | exact hres (fun _ _ => tf_conv hl) h
    | exact hres (fun _ _ => tf_range hl) h
    | skip
  case makeFunc fn xs ys =>
    simp only [xFn] at h
    split at h
    · exact hone h
    · cases h
  case call c =>
    simp only [isCall] at hc
    cases hcc : c.callee with
    | value f => rw [hcc] at hc; cases hc
    | invoke _ _ => rw [hcc] at hc; cases hc
    | builtin b =>
      simp only [xCall, hcc, xCallee, xBuiltin] at h
      split at h
      · rename_i f hb
        exact hres (fun _ _ => tf_bif hl hb) h
      · cases h
end Go.TX

/-
The executor's own facts: calls, pieces of code.
-/
namespace Go.TX

def ExF (ex : Ex) : Prop := ∀ (rd : Bool) (nt : Nat) (c : Code) (tm : Tm) (S : TS) (outs : List Out), ex rd nt c tm S = some outs → Low S → ∀ o ∈ outs, TF S o.S

theorem TF.relog {S S' : TS} (h : TF { S with wlog := [] } S') : TF S { S' with wlog := S'.wlog ++ S.wlog } := by
  obtain ⟨⟨n, f, d, l, b, g⟩, h4⟩ := h
  exact ⟨⟨n, f, d, by simp only [List.append_nil] at l; simp only [l], b, g⟩, h4⟩
theorem tf_kill : ∀ {ds : List Nat} {S S' : TS}, Low S → killAll S ds = some S' → TF S S'
  | [], S, S', hl, h => by simp only [killAll, Option.some.injEq] at h; subst h; exact TF.refl hl
  | i :: ds, S, S', hl, h => by
    simp only [killAll] at h
    split at h
    · rename_i hg
      have t := tf_put (o := .dead) hl hg
      exact t.trans (tf_kill t.2 h)
    · cases h
theorem bind_from {α β : Type} {m : M α} {f : α → M β} {l : List β} (h : M.bind m f = some l) : ∃ as, m = some as ∧ ∀ x ∈ l, ∃ a ∈ as, ∃ r, f a = some r ∧ x ∈ r := by
  cases m with
  | none => simp [M.bind] at h
  | some as =>
    refine ⟨as, rfl, ?_⟩
    simp only [M.bind] at h
    induction as generalizing l with
    | nil => simp [M.bind.go] at h
    | cons a as ih =>
      cases as with
      | nil =>
        simp only [M.bind.go] at h
        intro x hx; exact ⟨a, by simp, l, h, hx⟩
      | cons b as =>
        simp only [M.bind.go] at h
        split at h
        · cases h
        · rename_i r hr
          split at h
          · cases h
          · rename_i s hs
            cases h
            intro x hx
            rcases List.mem_append.1 hx with hx | hx
            · exact ⟨a, by simp, r, hr, hx⟩
            · obtain ⟨c, hc, r', h1, h2⟩ := ih hs x hx
              exact ⟨c, by simp [hc], r', h1, h2⟩

theorem tf_body {P : Program} {ex : Ex} (hex : ExF ex) {fn : Func} {body : Code} {args : List TV} {S : TS} {l : List (TV × TS)} (hl : Low S) (h : bodyT P ex fn body args S = some l) : ∀ q ∈ l, TF S q.2 := by
  unfold bodyT at h
  split at h
  · cases h
  · obtain ⟨os, h1, h2⟩ := bind_from h
    intro q hq
    obtain ⟨o, ho, r, hr, hqr⟩ := h2 q hq
    have t := hex _ _ _ _ _ _ h1 hl o ho
    unfold leaveT at hr
    split at hr
    · cases hr
    · cases hr
    · split at hr
      · cases hr
      · rename_i S2 hk
        split at hr
        · simp only [M.one, Option.some.injEq] at hr; subst hr; simp at hqr; subst hqr
          exact t.trans (tf_kill t.2 hk)
        · cases hr

theorem tf_call {E : Env} {ex : Ex} (hex : ExF ex) {f : FuncId} {args : List TV} {S : TS} {l : List (TV × TS)} (hl : Low S) (h : callT E ex f args S = some l) : ∀ q ∈ l, TF S q.2 := by
  unfold callT at h
  split at h
  · simp only [M.one, Option.some.injEq] at h; subst h; intro q hq; simp at hq; subst hq; exact TF.refl hl
  · split at h
    · cases h
    · split at h
      · unfold cloneT at h
        split at h
        · cases h
        · split at h
          · split at h
            · simp only [M.one, Option.some.injEq] at h; subst h; intro q hq; simp at hq; subst hq; exact tf_new hl (by assumption)
            · cases h
          · cases h
      · exact tf_body hex hl h

theorem turn_heap {K : Kn} {S S' : TS} (h : Turn S.heap.get S K S') : K = S'.heap.get := by
  funext i
  obtain ⟨d, _, _, g⟩ := h.log
  rcases g i with ⟨_, x⟩ | ⟨_, x, y⟩
  · exact x
  · rw [x, y]
theorem tf_of_turn {K : Kn} {S S' : TS} (h : Turn S.heap.get S K S') (hl : Low S') : TF S S' := ⟨(turn_heap h) ▸ h, hl⟩

theorem tf_merge {S0 : TS} (h0 : S0.wlog = []) (hl : Low S0) {m : M (TV × TS)} {l : List (TV × TS)} (h : merge S0 m = some l) (hm : ∀ l0, m = some l0 → ∀ q ∈ l0, TF S0 q.2) : ∀ q ∈ l, TF S0 q.2 := by
  unfold merge at h
  split at h
  · cases h
  · cases h
  · rename_i r; cases h; exact hm _ rfl
  · rename_i r rest _
    split at h
    · cases h; exact hm _ rfl
    · rename_i a ha
      split at h
      · rename_i hcond
        simp only [Bool.and_eq_true, blt_iff] at hcond
        cases h
        intro q hq; simp at hq; subst hq
        have tr := hm _ rfl r (by simp)
        unfold canonOf at ha
        simp only at ha
        split at ha
        · cases ha
          obtain ⟨d, hd, hdlt, _⟩ := tr.1.log
          rw [h0, List.append_nil] at hd
          simp only at hcond ⊢
          obtain ⟨t1, t2, t3⟩ := turn_putAll (l := oldsOf S0.next r.2.wlog) (K := S0.heap.get) hl (fun i hi => by
            obtain ⟨a, b⟩ := oldsOf_mem.1 hi
            exact ⟨b, (hdlt i (hd ▸ a)).2 b⟩)
          obtain ⟨t4, t5, _⟩ := turn_newAll t2 (by rw [t3]; exact hcond.2)
          exact tf_of_turn (t1.trans t4) t5
        · cases ha
      · cases h; exact hm _ rfl
theorem tf_callM {E : Env} {ex : Ex} (hex : ExF ex) {f : FuncId} {args : List TV} {S : TS} {l : List (TV × TS)} (hl : Low S) (h : callM E ex f args S = some l) : ∀ q ∈ l, TF S q.2 := by
  unfold callM at h
  simp only [setLog_eq, addLog_eq] at h
  split at h
  · cases h
  · rename_i lm hm
    cases h
    intro q hq
    obtain ⟨r, hr, rfl⟩ := List.mem_map.1 hq
    have hl0 : Low { S with wlog := [] } := hl
    exact (tf_merge rfl hl0 hm (fun l0 e => tf_call hex hl0 e) r hr).relog
theorem tf_callU {E : Env} {ex : Ex} (hex : ExF ex) {f : FuncId} {args : List TV} {S : TS} {l : List (TV × TS)} (hl : Low S) (h : callU E ex f args S = some l) : ∀ q ∈ l, TF S q.2 := by
  unfold callU at h
  simp only [setLog_eq, addLog_eq] at h
  split at h
  · cases h
  · rename_i lm hm
    cases h
    intro q hq
    obtain ⟨r, hr, rfl⟩ := List.mem_map.1 hq
    have hl0 : Low { S with wlog := [] } := hl
    exact (tf_call hex hl0 hm r hr).relog

theorem tf_yield {ex : Ex} (hex : ExF ex) {i : Nat} {args : List TV} {S : TS} {l : List (TV × TS)} (hl : Low S) (h : yieldT ex i args S = some l) : ∀ q ∈ l, TF S q.2 := by
  unfold yieldT at h
  split at h
  · split at h
    · cases h
    · obtain ⟨as, h1, h2⟩ := bind_from h
      intro x hx
      obtain ⟨r, hr, lr, hlr, hxr⟩ := h2 x hx
      have t1 := hex _ _ _ _ _ _ h1 hl r hr
      split at hlr
      · rename_i hg
        obtain ⟨bs, h3, h4⟩ := bind_from hlr
        have t2 := fun o => tf_put (o := o) t1.2 hg
        obtain ⟨q, hq, lq, hlq, hxq⟩ := h4 x hxr
        have t3 := hex _ _ _ _ _ _ h3 (t2 _).2 q hq
        split at hlq
        · rename_i hg2
          split at hlq
          · simp only [M.one, Option.some.injEq] at hlq; subst hlq; simp at hxq; subst hxq
            exact t1.trans ((t2 _).trans (t3.trans (tf_put t3.2 hg2)))
          · simp only [M.one, Option.some.injEq] at hlq; subst hlq; simp at hxq; subst hxq
            exact t1.trans ((t2 _).trans (t3.trans (tf_put t3.2 hg2)))
        · cases hlq
      · cases hlr
  · cases h

/-- Every operation. -/
theorem tf_oper {E : Env} {ex : Ex} (hex : ExF ex) {S : TS} {tm : Tm} {o : Oper} {l : List (TV × TS)} (hl : Low S) (h : runOp E ex S tm o = some l) : ∀ q ∈ l, TF S q.2 := by
  cases hc : isCall o.op with
  | false => exact tf_op hl hc h
  | true =>
    cases ho : o.op <;> rw [ho] at hc <;> simp only [isCall] at hc <;> first | (cases hc; done) | skip
    rename_i c
    unfold runOp at h; rw [ho] at h
    cases hcc : c.callee with
    | builtin b => rw [hcc] at hc; cases hc
    | invoke r n => simp [opFn, xCall, hcc, xCallee] at h
    | value f =>
      simp only [opFn, xCall, hcc, xCallee] at h
      unfold applyT at h
      split at h
      · exact tf_callM hex hl h
      · exact tf_yield hex hl h
      · cases h
end Go.TX

/-
The executor's own facts: all of it.
-/
namespace Go.TX
section
variable {E : Env} {ex : Ex}

theorem tf_forb {S S' : TS} {F : List (Nat × Nat)} (h : TF { S with forb := F, wlog := [] } S') (hF : ∀ i, ({ S with forb := F, wlog := [] } : TS).vis i = true → S.vis i = true) : TF S { S' with forb := S.forb, wlog := S'.wlog ++ S.wlog } := by
  obtain ⟨⟨n, f, d, l, b, g⟩, h4⟩ := h
  exact ⟨⟨n, rfl, d, by simp only [List.append_nil] at l; simp only [l], fun i hi => ⟨(b i hi).1, fun hlt => hF i ((b i hi).2 hlt)⟩, g⟩, h4⟩
theorem vis_append {S : TS} {A : List (Nat × Nat)} (i : Nat) (h : ({ S with forb := A ++ S.forb, wlog := [] } : TS).vis i = true) : S.vis i = true := by
  unfold TS.vis at h ⊢; simp only [List.all_append, Bool.and_eq_true] at h; exact h.2

theorem tf_runOps (hex : ExF ex) {nt : Nat} {ops : Array Oper} : ∀ {os : List Oper} {tm : Tm} {S : TS} {l : List (Tm × TS)}, Low S → runOps E ex nt ops os tm S = some l → ∀ q ∈ l, TF S q.2
  | [], tm, S, l, hl, h => by simp only [runOps, M.one, Option.some.injEq] at h; subst h; intro q hq; simp at hq; subst hq; exact TF.refl hl
  | o :: os, tm, S, l, hl, h => by
    simp only [runOps] at h
    split at h
    · cases h
    · split at h
      · cases h
      · exact tf_runOps hex hl h
    · obtain ⟨as, h1, h2⟩ := bind_from h
      intro q hq
      obtain ⟨r, hr, lr, hlr, hqr⟩ := h2 q hq
      have t := tf_oper hex hl h1 r hr
      split at hlr
      · cases hlr
      · exact t.trans (tf_runOps hex t.2 hlr q hqr)

/-- One step of a draw region. -/
theorem tf_ev (hex : ExF ex) {nt : Nat} {ops : Array Oper} {F : List (Nat × Nat)} {rs : List ORec} {e : Ev} (h : EvOk E ex nt ops F rs e) (hl : Low e.S0) : TF e.S0 e.S1 := by
  cases hr : e.ran with
  | false => obtain ⟨_, h2, _⟩ := h.skip hr; rw [h2]; exact TF.refl hl
  | true =>
    obtain ⟨S', h1, h2, _⟩ := h.run hr
    have hF : F = e.S0.forb := h.forb.symm
    rw [h2, hF]
    rw [hF] at h1
    have hl0 : Low { e.S0 with forb := hidden e.d.bef rs ++ e.S0.forb, wlog := [] } := hl
    exact tf_forb (tf_oper hex hl0 h1 (e.v, S') (by simp)) vis_append
theorem tf_chain (hex : ExF ex) {nt : Nat} {ops : Array Oper} {F : List (Nat × Nat)} : ∀ {evs : List Ev} {rs : List ORec} {tm : Tm} {S : TS} {tm' : Tm} {S' : TS}, Chain E ex nt ops F evs rs tm S tm' S' → Low S → TF S S'
  | [], rs, tm, S, tm', S', h, hl => by obtain ⟨_, rfl⟩ := h; exact TF.refl hl
  | e :: evs, rs, tm, S, tm', S', h, hl => by
    obtain ⟨_, rfl, h1, h2⟩ := h
    have t := tf_ev hex h1 hl
    exact t.trans (tf_chain hex h2 t.2)

theorem tf_then (hex : ExF ex) {rd : Bool} {nt : Nat} {c : Code} {r : Out} {l : List Out} (hl : Low r.S) (h : thenT rd nt ex c r = some l) : ∀ o ∈ l, TF r.S o.S := by
  by_cases hn : r.e = .normal
  · obtain ⟨l0, hl0, rfl⟩ := thenT_normal h hn
    intro o ho
    obtain ⟨q, hq, rfl⟩ := List.mem_map.1 ho
    exact hex _ _ _ _ _ _ hl0 hl q hq
  · rw [thenT_other h hn]
    intro o ho; simp at ho; subst ho; exact TF.refl hl

theorem tf_step (hex : ExF ex) {c : Code} {rd : Bool} {nt : Nat} {tm : Tm} {S : TS} {outs : List Out} (hl : Low S) (h : stepFn c E ex rd nt tm S = some outs) : ∀ o ∈ outs, TF S o.S := by
  have one : ∀ {e : TExit}, M.one (⟨e, tm, [], S⟩ : Out) = some outs → ∀ o ∈ outs, TF S o.S := fun h => by
    simp only [M.one, Option.some.injEq] at h; subst h; intro o ho; simp at ho; subst ho; exact TF.refl hl
  have regs : ∀ {m : M (Tm × TS)}, TX.outs m = some outs → (∀ l0, m = some l0 → ∀ q ∈ l0, TF S q.2) → ∀ o ∈ outs, TF S o.S := fun h hm => by
    obtain ⟨l0, h1, rfl⟩ := outs_some h
    intro o ho; obtain ⟨q, hq, rfl⟩ := List.mem_map.1 ho; exact hm l0 h1 q hq
  cases c <;> simp only [stepFn, sOne, sNone] at h <;> first | (cases h; done) | exact one h | skip
  case seq x y =>
    obtain ⟨as, h1, h2⟩ := bind_from h
    intro o ho
    obtain ⟨r, hr, lr, hlr, hor⟩ := h2 o ho
    have t := hex _ _ _ _ _ _ h1 hl r hr
    exact t.trans (tf_then hex t.2 hlr o hor)
  case cond x y z =>
    unfold sCond condT at h
    split at h
    · exact hex _ _ _ _ _ _ h hl
    · exact hex _ _ _ _ _ _ h hl
    · cases h
  case block i b =>
    unfold sBlock at h
    split at h
    · cases h
    · rename_i l0 h1; cases h
      intro o ho; obtain ⟨q, hq, rfl⟩ := List.mem_map.1 ho
      have := hex _ _ _ _ _ _ h1 hl q hq
      have e : (outOf i q).S = q.S := by
        unfold outOf
        split
        · split <;> rfl
        · rfl
      rw [e]; exact this
  case loop b =>
    obtain ⟨as, h1, h2⟩ := bind_from h
    intro o ho
    obtain ⟨r, hr, lr, hlr, hor⟩ := h2 o ho
    have t := hex _ _ _ _ _ _ h1 hl r hr
    exact t.trans (tf_then hex t.2 hlr o hor)
  case region i ops draw =>
    cases draw with
    | false => exact regs h (fun l0 e => tf_runOps hex hl e)
    | true =>
      simp only [sRegion] at h
      split at h
      · cases h
      · refine regs h (fun l0 e => ?_)
        obtain ⟨evs, tm', S', rfl, _, h3⟩ := runDraw_trace e
        intro q hq; simp at hq; subst hq
        exact tf_chain hex h3 hl
  case rangeFunc f ps as bd =>
    unfold sRange at h
    split at h
    · rename_i hroom
      simp only [Bool.and_eq_true] at hroom
      have t1 := tf_new (o := .dfr) hl hroom.1
      have t2 := fun o => tf_new (o := o) t1.2 hroom.2
      obtain ⟨as', h1, h2⟩ := bind_from h
      intro o ho
      obtain ⟨r, hr, lr, hlr, hor⟩ := h2 o ho
      have t3 := tf_callU hex (t2 _).2 h1 r hr
      have t := t1.trans ((t2 _).trans t3)
      unfold endT at hlr
      split at hlr
      · rename_i hg
        have t4 := fun o => tf_put (o := o) t3.2 hg
        repeat' split at hlr
        all_goals first
          | (cases hlr; done)
          | (simp only [M.one, Option.some.injEq] at hlr; subst hlr; simp at hor; subst hor; exact t.trans (t4 _))
      · cases hlr
    · cases h

theorem exF (n : Nat) : ExF (exec E n) := by
  induction n with
  | zero => intro rd nt c tm S outs h; simp [exec] at h
  | succ n ih =>
    intro rd nt c tm S outs h hl
    exact tf_step (E := E) ih hl (show stepFn c E (exec E n) rd nt tm S = some outs from h)
end
end Go.TX

/-
Regions whose order is open: the executor goes through one order; whatever order is drawn comes to the same.
-/
namespace Go.TX

/-! ### What holds once some of the operations are done -/
def Ev.touch (e : Ev) (i : Nat) : Prop := i ∈ e.wr ∨ (e.S0.next ≤ i ∧ i < e.S1.next)

open Classical in
noncomputable def pickE {α : Type} (D : Nat → Bool) (hit : Ev → Prop) (val : Ev → α) : List Ev → α → α
  | [], x => x
  | e :: l, x => pickE D hit val l (if D e.d.k = true ∧ hit e then val e else x)

def allD : Nat → Bool := fun _ => true
def addD (D : Nat → Bool) (k : Nat) : Nat → Bool := fun m => D m || Nat.beq m k
theorem addD_same (D : Nat → Bool) (k : Nat) : addD D k k = true := by simp [addD, Nat.beq_refl]
theorem addD_ne {D : Nat → Bool} {k m : Nat} (h : m ≠ k) : addD D k m = D m := by simp [addD, (beq_false m k).2 h]
theorem addD_of {D : Nat → Bool} {k m : Nat} (h : D m = true) : addD D k m = true := by simp [addD, h]

section
variable {α : Type} {D D' : Nat → Bool} {hit : Ev → Prop} {val : Ev → α}
theorem pickE_append : ∀ (a b : List Ev) (x : α), pickE D hit val (a ++ b) x = pickE D hit val b (pickE D hit val a x)
  | [], _, _ => rfl
  | e :: a, b, x => by simp only [List.cons_append, pickE]; exact pickE_append a b _
theorem pickE_none : ∀ {l : List Ev} {x : α}, (∀ e ∈ l, D e.d.k = true → ¬ hit e) → pickE D hit val l x = x
  | [], _, _ => rfl
  | e :: l, x, h => by
    simp only [pickE]
    rw [if_neg (fun c => h e (by simp) c.1 c.2)]
    exact pickE_none (fun e' he => h e' (by simp [he]))
theorem pickE_congr : ∀ {l : List Ev} {x : α}, (∀ e ∈ l, hit e → D e.d.k = D' e.d.k) → pickE D hit val l x = pickE D' hit val l x
  | [], _, _ => rfl
  | e :: l, x, h => by
    simp only [pickE]
    by_cases c : D e.d.k = true ∧ hit e
    · rw [if_pos c, if_pos ⟨by rw [← h e (by simp) c.2]; exact c.1, c.2⟩]
      exact pickE_congr (l := l) (fun e' he => h e' (List.mem_cons_of_mem _ he))
    · rw [if_neg c, if_neg (fun x => c ⟨by rw [h e (by simp) x.2]; exact x.1, x.2⟩)]
      exact pickE_congr (l := l) (fun e' he => h e' (List.mem_cons_of_mem _ he))
theorem pickE_base {β : Type} {val : Ev → Option β} {o : β} : ∀ {l : List Ev} {x y : Option β}, pickE D hit val l x = some o → (x = some o → y = some o) → pickE D hit val l y = some o
  | [], _, _, h, hb => hb h
  | e :: l, x, y, h, hb => by
    simp only [pickE] at h ⊢
    by_cases c : D e.d.k = true ∧ hit e
    · rw [if_pos c] at h ⊢; exact h
    · rw [if_neg c] at h ⊢; exact pickE_base h hb
theorem pickE_add {A B : List Ev} {e : Ev} {x : α} (hA : ∀ e' ∈ A, e'.d.k ≠ e.d.k) (hB : ∀ e' ∈ B, e'.d.k ≠ e.d.k) (_hD : D e.d.k = false) (hn : hit e → ∀ e' ∈ B, D e'.d.k = true → ¬ hit e') :
    (hit e → pickE (addD D e.d.k) hit val (A ++ e :: B) x = val e) ∧ (¬ hit e → pickE (addD D e.d.k) hit val (A ++ e :: B) x = pickE D hit val (A ++ e :: B) x) := by
  have cA : pickE (addD D e.d.k) hit val A x = pickE D hit val A x := pickE_congr (fun e' he _ => addD_ne (hA e' he))
  have cB : ∀ y, pickE (addD D e.d.k) hit val B y = pickE D hit val B y := fun y => pickE_congr (fun e' he _ => addD_ne (hB e' he))
  constructor
  · intro h
    rw [pickE_append, cA]
    simp only [pickE]
    rw [if_pos ⟨addD_same D _, h⟩, cB]
    exact pickE_none (hn h)
  · intro h
    rw [pickE_append, cA, pickE_append]
    simp only [pickE]
    rw [if_neg (fun c => h c.2), if_neg (fun c => h c.2), cB]
end

noncomputable def layK (D : Nat → Bool) (l : List Ev) (K : Kn) : Kn := fun i => pickE D (·.touch i) (·.S1.heap.get i) l (K i)
noncomputable def putD (tm : Tm) (d : Option Tmp) (v : TV) : Tm := match d with
  | none => tm
  | some t => tm.set t v
noncomputable def layTm (D : Nat → Bool) : List Ev → Tm → Tm
  | [], tm => tm
  | e :: l, tm => layTm D l (match D e.d.k with | true => putD tm e.d.o.dst e.v | false => tm)

theorem putT_putD {nt : Nat} {tm tm' : Tm} {d : Option Tmp} {v : TV} (h : putT nt tm d v = some tm') : tm' = putD tm d v ∧ (∀ tm1, putT nt tm1 d v = some (putD tm1 d v)) ∧ ∀ t, d = some t → t < top := by
  cases d with
  | none => simp only [putT, Option.some.injEq] at h; subst h; exact ⟨rfl, fun _ => rfl, fun t e => by cases e⟩
  | some t =>
    simp only [putT] at h
    split at h
    · rename_i hc
      cases h
      refine ⟨rfl, fun tm1 => by simp only [putT, hc]; rfl, fun t' e => ?_⟩
      cases e
      simp only [Bool.and_eq_true, blt_iff] at hc
      exact hc.2
    · cases h
theorem putD_get {tm : Tm} {d : Option Tmp} {v : TV} (h : ∀ t, d = some t → t < top) (t : Nat) : (d = some t → (putD tm d v).get t = some v) ∧ (d ≠ some t → (putD tm d v).get t = tm.get t) := by
  cases d with
  | none => exact ⟨fun e => (by cases e), fun _ => rfl⟩
  | some t' =>
    have := Tree.get_set v tm t' t (h t' rfl)
    refine ⟨fun e => ?_, fun e => ?_⟩
    · cases e; show (tm.set t v).get t = _; rw [this, if_pos rfl]
    · show (tm.set t' v).get t = _; rw [this, if_neg (fun x => e (by rw [x]))]
theorem layTm_get {D : Nat → Bool} : ∀ {l : List Ev} {tm : Tm}, (∀ e ∈ l, ∀ t, e.d.o.dst = some t → t < top) → ∀ t, (layTm D l tm).get t = pickE D (·.d.o.dst = some t) (fun e => some e.v) l (tm.get t)
  | [], _, _, _ => rfl
  | e :: l, tm, h, t => by
    simp only [layTm, pickE]
    rw [layTm_get (fun e' he => h e' (by simp [he]))]
    congr 1
    obtain ⟨p1, p2⟩ := putD_get (tm := tm) (v := e.v) (h e (by simp)) t
    cases hD : D e.d.k with
    | false => rw [if_neg (by simp)]
    | true =>
      by_cases c : e.d.o.dst = some t
      · rw [if_pos ⟨rfl, c⟩]; exact p1 c
      · rw [if_neg (fun x => c x.2)]; exact p2 c
theorem tmRel_get {β : Be} {nt : Nat} {tm tm' : Tm} {T : Array Value} (h : tmRel β nt tm T) (e : ∀ t, tm'.get t = tm.get t) : tmRel β nt tm' T := ⟨h.1, fun t => by rw [e t]; exact h.2 t⟩

/-! ### The records -/
theorem recsOf_keep : ∀ {A : List Ev} {rs : List ORec} {r : ORec}, r ∈ rs → r ∈ recsOf A rs
  | [], _, _, h => h
  | e :: A, rs, r, h => by
    simp only [recsOf]
    apply recsOf_keep
    split
    · exact List.mem_cons_of_mem _ h
    · exact h
theorem recsOf_mem : ∀ {A : List Ev} {rs : List ORec} {e : Ev}, e ∈ A → e.ran = true → e.mark ∈ recsOf A rs
  | [], _, _, h, _ => by simp at h
  | a :: A, rs, e, h, hr => by
    simp only [recsOf]
    rcases List.mem_cons.1 h with rfl | h
    · apply recsOf_keep; rw [if_pos hr]; simp
    · exact recsOf_mem h hr
theorem foldr_keep {wr : List Nat} {l : List (Nat × Nat)} {p : Nat × Nat} (h : p ∈ l) : p ∈ wr.foldr (fun w acc => (w, w + 1) :: acc) l := by
  induction wr with
  | nil => exact h
  | cons w wr ih => simp only [List.foldr_cons]; exact List.mem_cons_of_mem _ ih
theorem foldr_new {wr : List Nat} {l : List (Nat × Nat)} {i : Nat} (h : i ∈ wr) : (i, i + 1) ∈ wr.foldr (fun w acc => (w, w + 1) :: acc) l := by
  induction wr with
  | nil => simp at h
  | cons w wr ih =>
    simp only [List.foldr_cons]
    rcases List.mem_cons.1 h with rfl | h
    · simp
    · exact List.mem_cons_of_mem _ (ih h)
theorem hidden_has {bef : Nat} : ∀ {rs : List ORec} {r : ORec}, r ∈ rs → ahead bef r.k = false → ∀ i, (i ∈ r.wr ∨ (r.lo ≤ i ∧ i < r.hi)) → ∃ p ∈ hidden bef rs, p.1 ≤ i ∧ i < p.2
  | [], _, h, _, _, _ => by simp at h
  | q :: rs, r, h, ha, i, hi => by
    rcases List.mem_cons.1 h with rfl | h
    · simp only [hidden, ha]
      rcases hi with hi | hi
      · refine ⟨(i, i + 1), ?_, Nat.le_refl _, Nat.lt_succ_self _⟩
        split
        · exact List.mem_cons_of_mem _ (foldr_new hi)
        · exact foldr_new hi
      · refine ⟨(r.lo, r.hi), ?_, hi.1, hi.2⟩
        rw [(blt_iff r.lo r.hi).2 (by omega)]
        simp
    · obtain ⟨p, hp, h2⟩ := hidden_has h ha i hi
      refine ⟨p, ?_, h2⟩
      simp only [hidden]
      split
      · exact hp
      · split
        · exact List.mem_cons_of_mem _ (foldr_keep hp)
        · exact foldr_keep hp
theorem calm_spec {bef : Nat} {wr : List Nat} : ∀ {rs : List ORec} {r : ORec}, calm bef wr rs = true → r ∈ rs → ahead bef r.k = false → r.wr = [] ∧ (r.foot = .none ∨ ∃ i, r.foot = .one i ∧ i ∉ wr)
  | [], _, _, h, _ => by simp at h
  | q :: rs, r, hc, h, ha => by
    simp only [calm] at hc
    split at hc
    · rename_i hq
      rcases List.mem_cons.1 h with rfl | h
      · rw [ha] at hq; cases hq
      · exact calm_spec hc h ha
    · split at hc
      · rename_i h1 h2
        rcases List.mem_cons.1 h with rfl | h
        · exact ⟨h1, .inl h2⟩
        · exact calm_spec hc h ha
      · rename_i i h1 h2
        split at hc
        · cases hc
        · rename_i hm
          rcases List.mem_cons.1 h with rfl | h
          · exact ⟨h1, .inr ⟨i, h2, fun x => by rw [(memN_iff i wr).2 x] at hm; cases hm⟩⟩
          · exact calm_spec hc h ha
      · cases hc
theorem quiet_spec {bef : Nat} : ∀ {rs : List ORec} {r : ORec}, quiet bef rs = true → r ∈ rs → ahead bef r.k = false → r.call = false
  | [], _, _, h, _ => by simp at h
  | q :: rs, r, hc, h, ha => by
    simp only [quiet] at hc
    split at hc
    · rename_i hq
      rcases List.mem_cons.1 h with rfl | h
      · exact hq
      · exact quiet_spec hc h ha
    · split at hc
      · rename_i hq
        rcases List.mem_cons.1 h with rfl | h
        · rw [ha] at hq; cases hq
        · exact quiet_spec hc h ha
      · cases hc

/-! ### The plan -/
theorem testBit_lor' (a b i : Nat) : Nat.testBit (Nat.lor a b) i = (Nat.testBit a i || Nat.testBit b i) := Nat.testBit_or a b i
theorem testBit_land' (a b i : Nat) : Nat.testBit (Nat.land a b) i = (Nat.testBit a i && Nat.testBit b i) := Nat.testBit_and a b i
theorem testBit_pow' (n i : Nat) : Nat.testBit (Nat.pow 2 n) i = decide (n = i) := Nat.testBit_two_pow
theorem land_zero {a b : Nat} (h : Nat.beq (Nat.land a b) 0 = true) (i : Nat) (ha : Nat.testBit a i = true) : Nat.testBit b i = false := by
  have := (beq_iff _ _).1 h
  have e : Nat.testBit (Nat.land a b) i = false := by rw [this]; simp
  rw [testBit_land', ha] at e
  simpa using e
theorem tmpBits_has : ∀ {l : List Operand} {t : Tmp}, Operand.tmp t ∈ l → Nat.testBit (tmpBits l) t = true
  | [], _, h => by simp at h
  | x :: l, t, h => by
    rcases List.mem_cons.1 h with e | h
    · subst e; simp only [tmpBits]; rw [testBit_lor', testBit_pow']; simp
    · have := tmpBits_has h
      cases x <;> simp only [tmpBits] <;> first | exact this | (rw [testBit_lor', this]; simp)
theorem dst_bit {ops : List Oper} {o : Oper} {t : Tmp} (h : o.dst = some t) : Nat.testBit (bitsOf ops o).dst t = true := by
  simp only [bitsOf, h, dstBits]; rw [testBit_pow']; simp
theorem look_tmp {ops : List Oper} {o : Oper} {t : Tmp} (h : Operand.tmp t ∈ o.op.operands.toList) : Nat.testBit (bitsOf ops o).look t = true := by
  have := tmpBits_has h
  simp only [bitsOf]
  split
  · split
    · rw [testBit_lor', this]; simp
    · exact this
  · exact this
theorem look_guard {ops : List Oper} {o q : Oper} {g : Nat} {b : Bool} {t : Tmp} (h : o.guard = some (g, b)) (hq : ops[g]? = some q) (ht : q.dst = some t) : Nat.testBit (bitsOf ops o).look t = true := by
  simp only [bitsOf, h, hq, ht, dstBits]
  rw [testBit_lor', testBit_pow']; simp
theorem look_cong {ops : Array Oper} {o : Oper} {tm tm' : Tm} (h : ∀ t, Nat.testBit (bitsOf ops.toList o).look t = true → tm.get t = tm'.get t) : wantedT ops tm o = wantedT ops tm' o ∧ ∀ x ∈ o.op.operands, ev tm x = ev tm' x := by
  constructor
  · unfold wantedT
    cases hg : o.guard with
    | none => rfl
    | some g =>
      obtain ⟨j, b⟩ := g
      simp only
      cases hq : ops.toList[j]? with
      | none => rfl
      | some q =>
        simp only
        cases hd : q.dst with
        | none => rfl
        | some t => simp only; rw [h t (look_guard hg hq hd)]
  · intro x hx
    cases x with
    | tmp t => simp only [ev]; rw [h t (look_tmp (by simpa using hx))]
    | _ => rfl

theorem pairOk_spec {ops : List Oper} {k : Nat} {x : Bits} : ∀ {l : List DOp} {d : DOp}, pairOk ops k x l = true → d ∈ l → ahead d.bef k = true ∨ apartB x (bitsOf ops d.o) = true
  | [], _, _, h => by simp at h
  | q :: l, d, hp, h => by
    simp only [pairOk] at hp
    split at hp
    · rename_i ha
      rcases List.mem_cons.1 h with rfl | h
      · exact .inl ha
      · exact pairOk_spec hp h
    · split at hp
      · rename_i ha
        rcases List.mem_cons.1 h with rfl | h
        · exact .inr ha
        · exact pairOk_spec hp h
      · cases hp
theorem drawOk_new {ops : List Oper} : ∀ {l : List DOp} {done : Nat}, drawOk ops l done = true → ∀ d ∈ l, Nat.testBit done d.k = false
  | [], _, _, d, h => by simp at h
  | q :: l, done, hd, d, h => by
    simp only [drawOk] at hd
    split at hd
    · rename_i h1 h2 h3
      rcases List.mem_cons.1 h with rfl | h
      · exact h2
      · have := drawOk_new hd d h
        rw [testBit_lor'] at this
        simp only [Bool.or_eq_false_iff] at this
        exact this.1
    · cases hd
/-- Of two operations, the one gone through first. -/
def Two (ops : List Oper) (x y : DOp) : Prop := x.k ≠ y.k ∧ (ahead y.bef x.k = true ∨ apartB (bitsOf ops x.o) (bitsOf ops y.o) = true)
theorem drawOk_two {ops : List Oper} : ∀ {l : List DOp} {done : Nat}, drawOk ops l done = true → l.Pairwise (Two ops)
  | [], _, _ => List.Pairwise.nil
  | q :: l, done, hd => by
    simp only [drawOk] at hd
    split at hd
    · rename_i h1 h2 h3
      refine List.Pairwise.cons (fun d hm => ⟨fun e => ?_, pairOk_spec h3 hm⟩) (drawOk_two hd)
      have := drawOk_new hd d hm
      rw [testBit_lor', testBit_pow', e] at this
      simp at this
    · cases hd

theorem early_mem {d : DOp} : ∀ {l : List DOp} {del : Nat}, d ∈ l ↔ d ∈ (early del l).1 ∨ d ∈ (early del l).2
  | [], del => by simp [early]
  | q :: l, del => by
    simp only [early]
    split
    · rw [List.mem_cons, early_mem (l := l) (del := del)]
      simp only [List.mem_cons]
      constructor
      · rintro (h | h | h)
        · exact .inl (.inl h)
        · exact .inl (.inr h)
        · exact .inr h
      · rintro ((h | h) | h)
        · exact .inl h
        · exact .inr (.inl h)
        · exact .inr (.inr h)
    · rw [List.mem_cons, early_mem (l := l) (del := Nat.lor del (Nat.pow 2 q.k))]
      simp only [List.mem_cons]
      constructor
      · rintro (h | h | h)
        · exact .inr (.inl h)
        · exact .inl h
        · exact .inr (.inr h)
      · rintro (h | h | h)
        · exact .inr (.inl h)
        · exact .inl h
        · exact .inr (.inr h)
theorem plan_mem {d : DOp} : ∀ {n : Nat} {l : List DOp}, d ∈ plan n l ↔ d ∈ l
  | 0, l => Iff.rfl
  | n + 1, l => by
    simp only [plan]
    have := early_mem (d := d) (l := l) (del := 0)
    split
    · rename_i x hx
      rw [hx] at this; rw [this]; simp
    · rename_i x q y hx
      rw [hx] at this
      rw [List.mem_append, List.mem_cons, plan_mem (l := y), this, List.mem_cons]
theorem dops_mem {d : DOp} : ∀ {l : List Oper} {bs : List Nat} {k : Nat}, d ∈ dops l bs k ↔ ∃ j, l[j]? = some d.o ∧ bs[j]? = some d.bef ∧ d.k = k + j
  | [], bs, k => by simp [dops]
  | o :: l, [], k => by simp [dops]
  | o :: l, b :: bs, k => by
    simp only [dops, List.mem_cons]
    rw [dops_mem (l := l) (bs := bs) (k := k + 1)]
    constructor
    · rintro (h | ⟨j, h1, h2, h3⟩)
      · subst h; exact ⟨0, rfl, rfl, rfl⟩
      · exact ⟨j + 1, by simpa using h1, by simpa using h2, by omega⟩
    · rintro ⟨j, h1, h2, h3⟩
      cases j with
      | zero =>
        simp only [List.getElem?_cons_zero, Option.some.injEq] at h1 h2
        left
        cases d
        simp only at h1 h2 h3
        subst h1; subst h2
        simp [h3]
      | succ j => exact .inr ⟨j, by simpa using h1, by simpa using h2, by omega⟩

theorem Tree.lone_some {α : Type} (a : α) : ∀ (f n m : Nat) (b : α), (Tree.lone a f n).get m = some b → m = n ∧ b = a
  | 0, n, m, b, h => by cases n <;> cases h
  | f + 1, 0, m, b, h => by
    rw [lone_zero] at h
    cases m with
    | zero => rw [get_zero] at h; cases h; exact ⟨rfl, rfl⟩
    | succ m => rw [get_succ, get_leaf, ite_self] at h; cases h
  | f + 1, n + 1, m, b, h => by
    rw [lone_succ] at h
    cases m with
    | zero => split at h <;> (rw [get_zero] at h; cases h)
    | succ m =>
      split at h
      · rw [get_succ, get_leaf] at h
        split at h
        · obtain ⟨x, y⟩ := lone_some a f _ _ b h; exact ⟨by omega, y⟩
        · cases h
      · rw [get_succ, get_leaf] at h
        split at h
        · cases h
        · obtain ⟨x, y⟩ := lone_some a f _ _ b h; exact ⟨by omega, y⟩
theorem Tree.set_some {α : Type} (a : α) : ∀ (t : Tree α) (n m : Nat) (b : α), (t.set n a).get m = some b → (m = n ∧ b = a) ∨ t.get m = some b
  | .leaf, n, m, b, h => by rw [set_leaf] at h; exact .inl (lone_some a 40 n m b h)
  | .node l v r, 0, m, b, h => by
    rw [set_zero] at h
    cases m with
    | zero => rw [get_zero] at h; cases h; exact .inl ⟨rfl, rfl⟩
    | succ m => right; rw [get_succ] at h ⊢; exact h
  | .node l v r, n + 1, m, b, h => by
    rw [set_succ] at h
    cases m with
    | zero => right; split at h <;> (rw [get_zero] at h ⊢; exact h)
    | succ m =>
      split at h
      · rw [get_succ] at h ⊢
        split at h
        · rcases set_some a l _ _ b h with ⟨x, y⟩ | x
          · exact .inl ⟨by omega, y⟩
          · right; simp only [*, if_true]
        · right; simp only [*, if_false]
      · rw [get_succ] at h ⊢
        split at h
        · right; simp only [*, if_true]
        · rcases set_some a r _ _ b h with ⟨x, y⟩ | x
          · exact .inl ⟨by omega, y⟩
          · right; simp only [*, if_false]

/-- Which are ahead: those that an edge names, and those ahead of these. -/
theorem edgeBits_spec {tr : Tree Nat} : ∀ {l : List Edge} {n : Nat}, Nat.testBit (edgeBits tr l) n = true → ∃ e ∈ l, Region.binds .any e = true ∧ (n = e.on ∨ ∃ b, tr.get e.on = some b ∧ Nat.testBit b n = true)
  | [], n, h => by simp [edgeBits] at h
  | e :: l, n, h => by
    have rec' : Nat.testBit (edgeBits tr l) n = true → ∃ e' ∈ e :: l, Region.binds .any e' = true ∧ (n = e'.on ∨ ∃ b, tr.get e'.on = some b ∧ Nat.testBit b n = true) := fun h => by
      obtain ⟨e', h1, h2⟩ := edgeBits_spec h; exact ⟨e', List.mem_cons_of_mem _ h1, h2⟩
    simp only [edgeBits] at h
    split at h
    · exact rec' h
    · rename_i hb
      split at h
      · rename_i b hg
        rw [testBit_lor', testBit_lor', testBit_pow'] at h
        simp only [Bool.or_eq_true, decide_eq_true_eq] at h
        rcases h with (h | h) | h
        · exact ⟨e, by simp, hb, .inl h.symm⟩
        · exact ⟨e, by simp, hb, .inr ⟨b, hg, h⟩⟩
        · exact rec' h
      · rw [testBit_lor', testBit_pow'] at h
        simp only [Bool.or_eq_true, decide_eq_true_eq] at h
        rcases h with h | h
        · exact ⟨e, by simp, hb, .inl h.symm⟩
        · exact rec' h
theorem befsT_length : ∀ {l : List Oper} {k : Nat} {tr : Tree Nat}, (befsT l k tr).length = l.length
  | [], _, _ => rfl
  | o :: l, k, tr => by simp only [befsT, List.length_cons]; rw [befsT_length]
theorem befsT_spec : ∀ {l : List Oper} {k : Nat} {tr : Tree Nat} {pre : List Nat}, pre.length = k → (∀ m b, tr.get m = some b → pre[m]? = some b) →
    ∀ (j : Nat) (o : Oper) (b : Nat), l[j]? = some o → (befsT l k tr)[j]? = some b → ∀ n, Nat.testBit b n = true → ∃ e ∈ o.after.toList, Region.binds .any e = true ∧ (n = e.on ∨ ∃ b', (pre ++ befsT l k tr)[e.on]? = some b' ∧ Nat.testBit b' n = true)
  | [], k, tr, pre, _, _, j, o, b, hl, _ => by simp at hl
  | q :: l, k, tr, pre, hp, htr, j, o, b, hl, hb => by
    intro n hn
    simp only [befsT] at hb ⊢
    cases j with
    | zero =>
      simp only [List.getElem?_cons_zero, Option.some.injEq] at hl hb
      subst hl; subst hb
      obtain ⟨e, h1, h2, h3⟩ := edgeBits_spec hn
      refine ⟨e, h1, h2, ?_⟩
      rcases h3 with h3 | ⟨b', h3, h4⟩
      · exact .inl h3
      · refine .inr ⟨b', ?_, h4⟩
        have := htr _ _ h3
        have hlt : e.on < pre.length := (List.getElem?_eq_some_iff.1 this).1
        rw [List.getElem?_append_left hlt]; exact this
    | succ j =>
      simp only [List.getElem?_cons_succ] at hl hb
      have := befsT_spec (l := l) (k := k + 1) (tr := tr.set k (edgeBits tr q.after.toList)) (pre := pre ++ [edgeBits tr q.after.toList]) (by simp [hp])
        (fun m b' h => by
          rcases Tree.set_some _ _ _ _ _ h with ⟨x, y⟩ | x
          · subst x; subst y; rw [← hp]; simp
          · have h' := htr _ _ x
            have hlt : m < pre.length := (List.getElem?_eq_some_iff.1 h').1
            rw [List.getElem?_append_left hlt]; exact h') j o b hl hb n hn
      simpa using this
theorem backB_spec {k : Nat} : ∀ {l : List Edge}, backB k l = true → ∀ e ∈ l, Region.binds .any e = true → e.on < k
  | [], _, e, h => by simp at h
  | q :: l, hb, e, h => by
    simp only [backB] at hb
    intro hbind
    rcases List.mem_cons.1 h with rfl | h
    · rw [hbind] at hb
      cases hlt : Nat.blt e.on k with
      | true => exact (blt_iff _ _).1 hlt
      | false => rw [hlt] at hb; simp at hb
    · refine backB_spec ?_ e h hbind
      split at hb
      · cases hb
      · exact hb
theorem backsB_spec : ∀ {l : List Oper} {k : Nat}, backsB l k = true → ∀ (j : Nat) (o : Oper), l[j]? = some o → backB (k + j) o.after.toList = true
  | [], _, _, j, o, h => by simp at h
  | q :: l, k, hb, j, o, h => by
    simp only [backsB] at hb
    split at hb
    · rename_i h1
      cases j with
      | zero => simp only [List.getElem?_cons_zero, Option.some.injEq] at h; subst h; exact h1
      | succ j =>
        have := backsB_spec hb j o (by simpa using h)
        rw [show k + (j + 1) = k + 1 + j by omega]; exact this
    · cases hb

end Go.TX

/-
Regions whose order is open: one operation more, whichever; then all of them.
-/
namespace Go.TX

/-! ### The executor's chain -/
section
variable {E : Env} {ex : Ex} {nt : Nat} {ops : Array Oper} {F : List (Nat × Nat)}

theorem EvOk.still {rs : List ORec} {e : Ev} (h : EvOk E ex nt ops F rs e) (hr : e.ran = false) (i : Nat) : ¬ e.touch i := by
  obtain ⟨_, h1, h2⟩ := h.skip hr
  rintro (x | x)
  · rw [h2] at x; simp at x
  · rw [h1] at x; omega
/-- What a run of one operation turned. -/
theorem EvOk.turn (hex : ExF ex) {rs : List ORec} {e : Ev} (h : EvOk E ex nt ops F rs e) (hl : Low e.S0) (hr : e.ran = true) :
    ∃ S', runOp E ex { e.S0 with forb := hidden e.d.bef rs ++ F, wlog := [] } e.tm0 e.d.o = some [(e.v, S')] ∧ S'.next = e.S1.next ∧ S'.heap = e.S1.heap ∧ (∀ i, e.touch i ↔ i ∈ S'.wlog ∨ (e.S0.next ≤ i ∧ i < e.S1.next)) ∧
      (∀ i ∈ e.wr, i < e.S0.next ∧ ({ e.S0 with forb := hidden e.d.bef rs ++ F, wlog := [] } : TS).vis i = true) ∧ (e.wr = [] ∨ calm e.d.bef e.wr rs = true) ∧ mayLay e.d.bef e.S0.next e.S1.next rs = true ∧
      (∀ i, ¬ e.touch i → e.S1.heap.get i = e.S0.heap.get i) ∧ e.S1.wlog = S'.wlog ++ e.S0.wlog := by
  obtain ⟨S', h1, h2, h3, h4, h5⟩ := h.run hr
  have hl0 : Low { e.S0 with forb := hidden e.d.bef rs ++ F, wlog := [] } := hl
  obtain ⟨tn, -⟩ := tf_oper hex hl0 h1 (e.v, S') (by simp)
  have n1 : S'.next = e.S1.next := by rw [h2]
  have n2 : S'.heap = e.S1.heap := by rw [h2]
  obtain ⟨d, hd, hb, hg⟩ := tn.log
  simp only [List.append_nil] at hd
  have ht : ∀ i, e.touch i ↔ i ∈ S'.wlog ∨ (e.S0.next ≤ i ∧ i < e.S1.next) := fun i => by
    unfold Ev.touch
    rw [h3, oldsOf_mem]
    constructor
    · rintro (x | x)
      · exact .inl x.1
      · exact .inr x
    · rintro (x | x)
      · by_cases c : i < e.S0.next
        · exact .inl ⟨x, c⟩
        · exact .inr ⟨by omega, by rw [← n1]; exact (hb i (by rw [← hd]; exact x)).1⟩
      · exact .inr x
  refine ⟨S', h1, n1, n2, ht, fun i hi => ?_, h4, by rw [← n1]; exact h5, fun i hi => ?_, by rw [h2]⟩
  · rw [h3, oldsOf_mem] at hi
    exact ⟨hi.2, (hb i (by rw [← hd]; exact hi.1)).2 hi.2⟩
  · rcases hg i with ⟨x, _⟩ | ⟨_, _, x⟩
    · exfalso; refine hi ((ht i).2 ?_)
      rcases x with x | x
      · exact .inl (by rw [hd]; exact x)
      · exact .inr (by rw [← n1]; exact x)
    · rw [← n2]; exact x
theorem EvOk.same (hex : ExF ex) {rs : List ORec} {e : Ev} (h : EvOk E ex nt ops F rs e) (hl : Low e.S0) (i : Nat) (hi : ¬ e.touch i) : e.S1.heap.get i = e.S0.heap.get i := by
  cases hr : e.ran with
  | false => rw [(h.skip hr).2.1]
  | true => obtain ⟨_, _, _, _, _, _, _, _, x, _⟩ := h.turn hex hl hr; exact x i hi

theorem Chain.split : ∀ {A : List Ev} {e : Ev} {B : List Ev} {rs : List ORec} {tm : Tm} {S : TS} {tm' : Tm} {S' : TS}, Chain E ex nt ops F (A ++ e :: B) rs tm S tm' S' →
    Chain E ex nt ops F A rs tm S e.tm0 e.S0 ∧ EvOk E ex nt ops F (recsOf A rs) e ∧ Chain E ex nt ops F B (if e.ran then e.mark :: recsOf A rs else recsOf A rs) e.tm1 e.S1 tm' S'
  | [], _, _, _, _, _, _, _, h => by obtain ⟨h0, h0', h1, h2⟩ := h; exact ⟨⟨h0, h0'⟩, h1, h2⟩
  | a :: A, _, _, _, _, _, _, _, h => by
    obtain ⟨h0, h0', h1, h2⟩ := h
    obtain ⟨g1, g2, g3⟩ := Chain.split h2
    exact ⟨⟨h0, h0', h1, g1⟩, g2, g3⟩
/-- One of a chain: what stands in the records ahead of it. -/
theorem Chain.of_mem (hex : ExF ex) {evs : List Ev} {rs : List ORec} {tm : Tm} {S : TS} {tm' : Tm} {S' : TS} {e : Ev} (h : Chain E ex nt ops F evs rs tm S tm' S') (hl : Low S) (hm : e ∈ evs) :
    ∃ rs', EvOk E ex nt ops F rs' e ∧ (∀ r ∈ rs, r ∈ rs') ∧ Low e.S0 ∧ S.next ≤ e.S0.next ∧ e.S0.next ≤ e.S1.next ∧ e.S1.next ≤ S'.next := by
  obtain ⟨A, B, rfl⟩ := List.append_of_mem hm
  obtain ⟨g1, g2, g3⟩ := h.split
  have t1 := tf_chain hex g1 hl
  have t2 := tf_ev hex g2 t1.2
  have t3 := tf_chain hex g3 t2.2
  exact ⟨_, g2, fun r hr => recsOf_keep hr, t1.2, t1.1.next, t2.1.next, t3.1.next⟩
theorem chain_heap (hex : ExF ex) : ∀ {evs : List Ev} {rs : List ORec} {tm : Tm} {S : TS} {tm' : Tm} {S' : TS}, Chain E ex nt ops F evs rs tm S tm' S' → Low S →
    ∀ i, S'.heap.get i = pickE allD (·.touch i) (·.S1.heap.get i) evs (S.heap.get i)
  | [], _, _, _, _, _, h, _, i => by obtain ⟨_, rfl⟩ := h; rfl
  | e :: evs, _, _, _, _, _, h, hl, i => by
    obtain ⟨_, rfl, h1, h2⟩ := h
    have t := tf_ev hex h1 hl
    rw [chain_heap hex h2 t.2 i]
    simp only [pickE]
    congr 1
    by_cases c : e.touch i
    · rw [if_pos ⟨rfl, c⟩]
    · rw [if_neg (fun x => c x.2)]; exact h1.same hex hl i c
theorem layK_pos {e : Ev} {K : Kn} {i : Nat} (h : e.touch i) : layK allD [e] K i = e.S1.heap.get i := by
  show pickE allD (·.touch i) (·.S1.heap.get i) [e] (K i) = _
  simp only [pickE]
  exact if_pos ⟨rfl, h⟩
theorem layK_neg {e : Ev} {K : Kn} {i : Nat} (h : ¬ e.touch i) : layK allD [e] K i = K i := by
  show pickE allD (·.touch i) (·.S1.heap.get i) [e] (K i) = _
  simp only [pickE]
  exact if_neg (fun x => h x.2)
theorem ev_turn (hex : ExF ex) {rs : List ORec} {e : Ev} (h : EvOk E ex nt ops F rs e) (hl : Low e.S0) (K : Kn) : Turn K e.S0 (layK allD [e] K) e.S1 := by
  cases hr : e.ran with
  | false =>
    have hst := h.still hr
    have : layK allD [e] K = K := funext fun i => layK_neg (hst i)
    rw [this, (h.skip hr).2.1]
    exact Turn.refl K _
  | true =>
    obtain ⟨S2, _, hn, hh, ht, _, _, _, hs, hw⟩ := h.turn hex hl hr
    obtain ⟨⟨n, f, d, l, b, _⟩, _⟩ := tf_ev hex h hl
    have hd : d = S2.wlog := List.append_cancel_right (l.symm.trans hw)
    subst hd
    refine ⟨n, f, S2.wlog, l, b, fun i => ?_⟩
    by_cases c : e.touch i
    · exact .inl ⟨(ht i).1 c, layK_pos c⟩
    · exact .inr ⟨fun x => c ((ht i).2 x), layK_neg c, hs i c⟩
theorem chain_turn (hex : ExF ex) : ∀ {evs : List Ev} {rs : List ORec} {tm : Tm} {S : TS} {tm' : Tm} {S' : TS}, Chain E ex nt ops F evs rs tm S tm' S' → Low S → ∀ K, Turn K S (layK allD evs K) S'
  | [], _, _, _, _, _, h, _, K => by obtain ⟨_, rfl⟩ := h; exact Turn.refl K _
  | e :: evs, _, _, _, _, _, h, hl, K => by
    obtain ⟨_, rfl, h1, h2⟩ := h
    exact (ev_turn hex h1 hl K).trans (chain_turn hex h2 (tf_ev hex h1 hl).2 (layK allD [e] K))
theorem chain_tm : ∀ {evs : List Ev} {rs : List ORec} {tm : Tm} {S : TS} {tm' : Tm} {S' : TS}, Chain E ex nt ops F evs rs tm S tm' S' → tm' = layTm allD evs tm
  | [], _, _, _, _, _, h => h.1
  | e :: evs, _, _, _, _, _, h => by
    obtain ⟨rfl, _, h1, h2⟩ := h
    rw [chain_tm h2]
    simp only [layTm, allD]
    rw [(putT_putD h1.put).1]
theorem chain_top {evs : List Ev} {rs : List ORec} {tm : Tm} {S : TS} {tm' : Tm} {S' : TS} (hex : ExF ex) (h : Chain E ex nt ops F evs rs tm S tm' S') (hl : Low S) : ∀ e ∈ evs, ∀ t, e.d.o.dst = some t → t < top := fun e he => by
  obtain ⟨_, g, _⟩ := h.of_mem hex hl he
  exact (putT_putD g.put).2.2
end

theorem Ext.join {K K1 K2 : Kn} {β β1 β2 : Be} {w w1 w2 : World} {lo hi : Nat} (h : Ext K β w K1 β1 w1 lo hi) (k : Ext K1 β1 w1 K2 β2 w2 lo hi) : Ext K β w K2 β2 w2 lo hi where
  os := k.os.trans h.os
  tape := k.tape.trans h.tape
  output := k.output.trans h.output
  size := Nat.le_trans h.size k.size
  sub := h.sub.trans k.sub
  dom := fun i e e' => by
    cases hb : β1 i with
    | none => exact k.dom i hb e'
    | some p => exact h.dom i e (by rw [hb]; simp)
  img := fun i o p e a hp => by
    rcases k.img i o p e a hp with h1 | ⟨j, o', q, e1, a1, hq, eb⟩
    · exact .inl (Nat.le_trans h.size h1)
    · rcases h.img j o' q e1 a1 hq with h1 | ⟨j', o'', q', e2, a2, hq', eb'⟩
      · exact .inl (eb ▸ h1)
      · exact .inr ⟨j', o'', q', e2, a2, hq', eb'.trans eb⟩
  same := fun b hb hn => by
    rw [← h.same b hb hn]
    refine k.same b (Nat.lt_of_lt_of_le hb h.size) fun j o q e a hq eb => ?_
    rcases h.img j o q e a hq with h1 | ⟨j', o', q', e1, a1, hq', eb'⟩
    · omega
    · exact hn j' o' q' e1 a1 hq' (eb'.trans eb)

theorem foot_call {tm : Tm} {o : Op} (h : isCall o = true) : footOf tm o = .wide := by
  cases o <;> simp only [isCall] at h <;> first | (cases h; done) | skip
  rename_i c
  simp only [footOf]
  cases hc : c.callee with
  | builtin b => rw [hc] at h; cases h
  | value f => rfl
  | invoke r n => rfl

/-- What stands once the operations in D are done. -/
structure Inv (P : Program) (nt : Nat) (evs : List Ev) (tm : Tm) (lo hi : Nat) (K : Kn) (β : Be) (w : World) (ds : List Deferred) (D : Nat → Bool) (β' : Be) (w' : World) (a' : Act) : Prop where
  rep : Rep P (layK D evs K) β' w'
  ext : Ext K β w (layK D evs K) β' w' lo hi
  dom : ∀ i, β i = none → β' i ≠ none → ∃ e ∈ evs, D e.d.k = true ∧ e.S0.next ≤ i ∧ i < e.S1.next
  tmr : tmRel β' nt (layTm D evs tm) a'.tmps
  dfr : a'.defers = ds

section
variable {E : Env} {ex : Ex} {Fn : Fence} {m nt : Nat} {ops : Array Oper} {S S' : TS} {tm tm' : Tm} {K : Kn} {β : Be} {w : World} {ds : List Deferred} {D : Nat → Bool} {β' : Be} {w' : World} {a' : Act}
  {Q : Exit → Act → World → Prop} {next : Act → World → Prop}

theorem draw_step (hop : OperOk E ex) (hex : ExF ex) (hF : Wide Fn) {A B : List Ev} {e : Ev} (hc : Chain E ex nt ops S.forb (A ++ e :: B) [] tm S tm' S') (hat : At E.P K β w S)
    (hpw : (A ++ e :: B).Pairwise (fun x y => Two ops.toList x.d y.d)) (hk : ops[e.d.k]? = some e.d.o) (hD : D e.d.k = false) (hbef : ∀ n, Nat.testBit e.d.bef n = true → D n = true)
    (hcl : ∀ q ∈ A ++ e :: B, D q.d.k = true → ∀ n, Nat.testBit q.d.bef n = true → D n = true) (hi : Inv E.P nt (A ++ e :: B) tm S.next S'.next K β w ds D β' w' a')
    (hnext : ∀ β2 w2 a2, Inv E.P nt (A ++ e :: B) tm S.next S'.next K β w ds (addD D e.d.k) β2 w2 a2 → next a2 w2) : wpOpIn Fn m E.P ops Q e.d.k next a' w' := by
  obtain ⟨cA, he, cB⟩ := hc.split
  have tA := tf_chain hex cA hat.low
  have te := tf_ev hex he tA.2
  have tB := tf_chain hex cB te.2
  have htop := chain_top hex hc hat.low
  rw [List.pairwise_append] at hpw
  obtain ⟨_, pB, pA⟩ := hpw
  have pA : ∀ q ∈ A, Two ops.toList q.d e.d := fun q hq => pA q hq e (by simp)
  have pB : ∀ q ∈ B, Two ops.toList e.d q.d := fun q hq => (List.pairwise_cons.1 pB).1 q hq
  have kA : ∀ q ∈ A, q.d.k ≠ e.d.k := fun q hq => (pA q hq).1
  have kB : ∀ q ∈ B, q.d.k ≠ e.d.k := fun q hq => (pB q hq).1.symm
  have memA : ∀ {q}, q ∈ A → q ∈ A ++ e :: B := fun h => by simp [h]
  have memB : ∀ {q}, q ∈ B → q ∈ A ++ e :: B := fun h => by simp [h]
  -- those behind that are done do not wait for this one
  have late : ∀ q ∈ B, D q.d.k = true → ahead q.d.bef e.d.k = false := fun q hq hd => by
    cases h : ahead q.d.bef e.d.k with
    | false => rfl
    | true => have := hcl q (memB hq) hd _ h; rw [hD] at this; cases this
  -- the temporaries it looks at
  have hlook : ∀ t, Nat.testBit (bitsOf ops.toList e.d.o).look t = true → (layTm D (A ++ e :: B) tm).get t = e.tm0.get t := fun t ht => by
    rw [layTm_get htop, chain_tm cA, layTm_get (fun q hq => htop q (memA hq)), pickE_append]
    simp only [pickE]
    rw [if_neg (by rw [hD]; simp), pickE_none]
    · refine pickE_congr fun q hq hh => ?_
      rcases (pA q hq).2 with h | h
      · rw [hbef _ h]; rfl
      · simp only [apartB, Bool.and_eq_true] at h
        have := land_zero h.1 t (dst_bit hh)
        rw [testBit_lor', ht] at this; simp at this
    · intro q hq hd hh
      rcases (pB q hq).2 with h | h
      · rw [late q hq hd] at h; cases h
      · simp only [apartB, Bool.and_eq_true] at h
        have := land_zero h.2 t (dst_bit hh)
        rw [ht] at this; cases this
  obtain ⟨hwant, hops⟩ := look_cong hlook
  rw [he.want] at hwant
  obtain ⟨_, hput, _⟩ := putT_putD he.put
  -- behind it: the temporaries
  have tm_next : ∀ t, (layTm (addD D e.d.k) (A ++ e :: B) tm).get t = (putD (layTm D (A ++ e :: B) tm) e.d.o.dst e.v).get t := fun t => by
    obtain ⟨q1, q2⟩ := putD_get (tm := layTm D (A ++ e :: B) tm) (v := e.v) (htop e (by simp)) t
    obtain ⟨p1, p2⟩ := pickE_add (D := D) (hit := (·.d.o.dst = some t)) (val := fun e => some e.v) (x := tm.get t) kA kB hD (fun hh q hq hd hh' => by
      rcases (pB q hq).2 with h | h
      · rw [late q hq hd] at h; cases h
      · simp only [apartB, Bool.and_eq_true] at h
        have := land_zero h.1 t (dst_bit hh)
        rw [testBit_lor', dst_bit hh'] at this; simp at this)
    rw [layTm_get htop]
    by_cases c : e.d.o.dst = some t
    · rw [p1 c, q1 c]
    · rw [p2 c, q2 c, layTm_get htop]
  have put_next : ∀ {β2 : Be} {v : Value}, Sub β' β2 → rel β2 e.v v → tmRel β2 nt (layTm (addD D e.d.k) (A ++ e :: B) tm) (a'.put e.d.o.dst v).tmps := fun hs hv =>
    tmRel_get (tmRel_put (hput _) (hi.tmr.mono hs) hv) tm_next
  have dfr_next : ∀ v : Value, (a'.put e.d.o.dst v).defers = ds := fun v => by
    have : (a'.put e.d.o.dst v).defers = a'.defers := by cases e.d.o.dst <;> rfl
    rw [this]; exact hi.dfr
  unfold wpOpIn
  simp only [hk]
  rw [wantedT_run hwant hi.tmr]
  cases hr : e.ran with
  | false =>
    simp only [Bool.false_eq_true, if_false]
    refine ⟨fun f _ => wide_fn hF f, hnext β' w' _ ?_⟩
    have hst := he.still hr
    have hKe : layK (addD D e.d.k) (A ++ e :: B) K = layK D (A ++ e :: B) K := funext fun i => (pickE_add (D := D) (hit := (·.touch i)) (val := (·.S1.heap.get i)) kA kB hD (fun h => absurd h (hst i))).2 (hst i)
    refine ⟨by rw [hKe]; exact hi.rep, by rw [hKe]; exact hi.ext, fun i h1 h2 => ?_, put_next (Sub.refl β') ?_, dfr_next _⟩
    · obtain ⟨q, hq, h3, h4⟩ := hi.dom i h1 h2
      exact ⟨q, hq, addD_of h3, h4⟩
    · rw [(he.skip hr).1]; exact undef_rel β'
  | true =>
    simp only [if_true]
    obtain ⟨S2, hrun, hn, hh, htouch, hwr, hcalm, hlay, hsame, _⟩ := he.turn hex tA.2 hr
    obtain ⟨hcong, hfoot⟩ := runOp_cong (E := E) (ex := ex) (S := { e.S0 with forb := hidden e.d.bef (recsOf A []) ++ S.forb, wlog := [] }) hops
    rw [← hcong] at hrun
    have hlow : Low { e.S0 with forb := hidden e.d.bef (recsOf A []) ++ S.forb, wlog := [] } := tA.2
    -- those behind that are done: in their records stands this one
    have behind : ∀ q ∈ B, D q.d.k = true → q.ran = true → ∃ rs, e.mark ∈ rs ∧ EvOk E ex nt ops S.forb rs q ∧ Low q.S0 ∧ e.S1.next ≤ q.S0.next := fun q hq hd hqr => by
      obtain ⟨rs, g1, g2, g3, g4, _⟩ := cB.of_mem hex te.2 hq
      exact ⟨rs, g2 _ (by rw [if_pos hr]; simp), g1, g3, g4⟩
    have ranB : ∀ q ∈ B, ∀ i, q.touch i → q.ran = true := fun q hq i ht => by
      cases h : q.ran with
      | true => rfl
      | false => obtain ⟨rs, g1, _⟩ := cB.of_mem hex te.2 hq; exact absurd ht (g1.still h i)
    have ranA : ∀ q ∈ A, ∀ i, q.touch i → q.ran = true := fun q hq i ht => by
      cases h : q.ran with
      | true => rfl
      | false => obtain ⟨rs, g1, _⟩ := cA.of_mem hex hat.low hq; exact absurd ht (g1.still h i)
    -- nobody behind that is done touched what this one touches
    have hnot : ∀ i, e.touch i → ∀ q ∈ B, D q.d.k = true → ¬ q.touch i := fun i ht q hq hd hqt => by
      have hqr := ranB q hq i hqt
      obtain ⟨rs, g1, g2, g3, g4⟩ := behind q hq hd hqr
      have hlt : i < e.S1.next := by
        rcases ht with x | x
        · exact Nat.lt_of_lt_of_le (hwr i x).1 te.1.next
        · exact x.2
      obtain ⟨_, _, _, _, _, k1, k2, _, _, _⟩ := g2.turn hex g3 hqr
      rcases hqt with x | x
      · obtain ⟨_, hv⟩ := k1 i x
        have hmk : ahead q.d.bef e.mark.k = false := late q hq hd
        obtain ⟨p, hp, h1, h2⟩ := hidden_has g1 hmk i (by
          rcases ht with y | y
          · exact .inl y
          · exact .inr y)
        unfold TS.vis at hv
        rw [List.all_append, Bool.and_eq_true, List.all_eq_true] at hv
        have := hv.1 p hp
        rw [Bool.or_eq_true, blt_iff, ble_iff] at this
        omega
      · omega
    -- what it looks at is as the executor knew it
    have hsup : ∀ i o, ({ e.S0 with forb := hidden e.d.bef (recsOf A []) ++ S.forb, wlog := [] } : TS).get i = some o → (∀ q ∈ B, D q.d.k = true → ¬ q.touch i) → layK D (A ++ e :: B) K i = some o := fun i o hg hB => by
      obtain ⟨hv, hg⟩ := get_vis hg
      have hg : e.S0.heap.get i = some o := hg
      rw [chain_heap hex cA hat.low i] at hg
      have hvS : S.vis i = true := vis_append (S := S) i hv
      have hA : pickE D (·.touch i) (·.S1.heap.get i) A (S.heap.get i) = some o := by
        rw [← hg]
        refine pickE_congr fun q hq ht => ?_
        have hqr := ranA q hq i ht
        cases ha : ahead e.d.bef q.mark.k with
        | true => have := hbef _ ha; rw [show D q.d.k = true from this]; rfl
        | false =>
          exfalso
          obtain ⟨p, hp, h1, h2⟩ := hidden_has (recsOf_mem hq hqr) ha i (by
            rcases ht with y | y
            · exact .inl y
            · exact .inr y)
          unfold TS.vis at hv
          rw [List.all_append, Bool.and_eq_true, List.all_eq_true] at hv
          have := hv.1 p hp
          rw [Bool.or_eq_true, blt_iff, ble_iff] at this
          omega
      show pickE D (·.touch i) (·.S1.heap.get i) (A ++ e :: B) (K i) = some o
      rw [pickE_append]
      simp only [pickE]
      rw [if_neg (by rw [hD]; simp), pickE_none hB]
      exact pickE_base hA (fun x => hat.sup i o (get_of hvS x))
    -- nobody behind that is done touched what it looks at
    have hlooks : ∀ i o, ({ e.S0 with forb := hidden e.d.bef (recsOf A []) ++ S.forb, wlog := [] } : TS).get i = some o → (footOf e.tm0 e.d.o.op = .wide ∨ footOf e.tm0 e.d.o.op = .one i) → layK D (A ++ e :: B) K i = some o := fun i o hg hf =>
      hsup i o hg fun q hq hd hqt => by
        have hlt := hlow.lt hg
        have hlt : i < e.S0.next := hlt
        have hqr := ranB q hq i hqt
        obtain ⟨rs, g1, g2, g3, g4⟩ := behind q hq hd hqr
        obtain ⟨_, _, _, _, _, _, k2, _, _, _⟩ := g2.turn hex g3 hqr
        have hmk : ahead q.d.bef e.mark.k = false := late q hq hd
        rcases hqt with x | x
        · rcases k2 with k2 | k2
          · rw [k2] at x; simp at x
          · obtain ⟨_, h2⟩ := calm_spec k2 g1 hmk
            have h2 : footOf e.tm0 e.d.o.op = .none ∨ ∃ j, footOf e.tm0 e.d.o.op = .one j ∧ j ∉ q.wr := h2
            rcases hf with hf | hf <;> rw [hf] at h2
            · rcases h2 with h2 | ⟨j, h2, _⟩ <;> cases h2
            · rcases h2 with h2 | ⟨j, h2, h3⟩
              · cases h2
              · cases h2; exact h3 x
        · have := te.1.next; omega
    -- how it goes on
    have cont : ∀ q ∈ [(e.v, S2)], ∀ K2 β2 w2 v, Step E.P (layK D (A ++ e :: B) K) β' w' { e.S0 with forb := hidden e.d.bef (recsOf A []) ++ S.forb, wlog := [] } K2 β2 w2 q.2 → rel β2 q.1 v → next (a'.put e.d.o.dst v) w2 := fun q hq K2 β2 w2 v st hv => by
      simp only [List.mem_singleton] at hq; subst hq
      have hK : K2 = layK (addD D e.d.k) (A ++ e :: B) K := funext fun i => by
        obtain ⟨p1, p2⟩ := pickE_add (D := D) (hit := (·.touch i)) (val := (·.S1.heap.get i)) (x := K i) kA kB hD (hnot i)
        obtain ⟨d, hd, _, hg⟩ := st.turn.log
        simp only [List.append_nil] at hd
        show K2 i = pickE (addD D e.d.k) (·.touch i) (·.S1.heap.get i) (A ++ e :: B) (K i)
        have ht := htouch i
        rw [hd, ← hn] at ht
        rcases hg i with ⟨x, y⟩ | ⟨x, y, _⟩
        · rw [p1 (ht.2 x), y]; show S2.heap.get i = _; rw [hh]
        · rw [p2 (fun z => x (ht.1 z)), y]; rfl
      refine hnext β2 w2 _ ⟨by rw [← hK]; exact st.rep, by rw [← hK]; exact hi.ext.join (st.ext.wide tA.1.next (by show S2.next ≤ _; rw [hn]; exact tB.1.next)), fun i h1 h2 => ?_, put_next st.ext.sub hv, dfr_next _⟩
      cases hb : β' i with
      | none =>
        have := st.ext.dom i hb h2
        simp only at this
        exact ⟨e, by simp, addD_same D _, this.1, by rw [← hn]; exact this.2⟩
      | some p =>
        obtain ⟨q, hq, h3, h4⟩ := hi.dom i h1 (by rw [hb]; simp)
        exact ⟨q, hq, addD_of h3, h4⟩
    -- which numbers are free
    have hfree : ∀ i, e.S0.next ≤ i → (i < e.S1.next ∨ isCall e.d.o.op = true) → β' i = none := fun i hlo hor => by
      cases hb : β' i with
      | none => rfl
      | some p =>
        exfalso
        have hβ := hat.free i (Nat.le_trans tA.1.next hlo)
        obtain ⟨q, hq, h3, h4⟩ := hi.dom i hβ (by rw [hb]; simp)
        rcases List.mem_append.1 hq with hq | hq
        · obtain ⟨_, _, _, _, _, _, g⟩ := cA.of_mem hex hat.low hq
          omega
        · rcases List.mem_cons.1 hq with rfl | hq
          · rw [hD] at h3; cases h3
          · have hqt : q.touch i := .inr h4
            have hqr := ranB q hq i hqt
            obtain ⟨rs, g1, g2, g3, g4⟩ := behind q hq h3 hqr
            rcases hor with hor | hor
            · omega
            · obtain ⟨_, _, _, _, _, _, _, k3, _, _⟩ := g2.turn hex g3 hqr
              unfold mayLay at k3
              rw [(blt_iff q.S0.next q.S1.next).2 (by omega)] at k3
              have hmk : ahead q.d.bef e.mark.k = false := late q hq h3
              have := quiet_spec k3 g1 hmk
              have this : isCall e.d.o.op = false := this
              rw [hor] at this; cases this
    cases hcall : isCall e.d.o.op with
    | true =>
      exact hop Fn m _ _ nt e.d.o _ _ β' w' a' next Q hF hrun ⟨fun i o hg => hlooks i o hg (.inl (foot_call hcall)), hi.rep, hlow, fun i hlo => hfree i hlo (.inr hcall)⟩ hi.tmr cont
    | false =>
      refine plain_oper hF hcall hrun hi.rep hlow ?_ (fun q hq i h1 h2 => ?_) hi.tmr cont
      · rw [hfoot]
        cases hf : footOf e.tm0 e.d.o.op with
        | none => trivial
        | one j => exact fun o hg => hlooks j o hg (.inr hf)
        | wide => exact fun i o hg => hlooks i o hg (.inl hf)
      · simp only [List.mem_singleton] at hq; subst hq
        exact hfree i h1 (.inl (by rw [← hn]; exact h2))
end
end Go.TX

/-
Regions whose order is open: the executor is right about them.
-/
namespace Go.TX

/-- Which are done. -/
def dn (listed : Array Bool) : Nat → Bool := fun k => listed.getD k false
/-- Those that an edge of one that is done names are done. -/
def EClosed (ops : Array Oper) (D : Nat → Bool) : Prop := ∀ (k : Nat) (o : Oper), ops[k]? = some o → D k = true → ∀ e ∈ o.after, Region.binds .any e = true → D e.on = true

section
variable {ops : Array Oper}

theorem befs_at {k : Nat} {o : Oper} {b : Nat} (ho : ops[k]? = some o) (hb : (befsT ops.toList 0 .leaf)[k]? = some b) {n : Nat} (hn : Nat.testBit b n = true) :
    ∃ e ∈ o.after, Region.binds .any e = true ∧ (n = e.on ∨ ∃ b', (befsT ops.toList 0 .leaf)[e.on]? = some b' ∧ Nat.testBit b' n = true) := by
  obtain ⟨e, h1, h2, h3⟩ := befsT_spec (l := ops.toList) (k := 0) (tr := .leaf) (pre := []) rfl (fun m b h => by rw [Tree.get_leaf] at h; cases h) k o b (by simpa using ho) hb n hn
  exact ⟨e, by simpa using h1, h2, by simpa using h3⟩
theorem bef_closed {D : Nat → Bool} (hback : backsB ops.toList 0 = true) (hD : EClosed ops D) : ∀ (k : Nat) (b : Nat), (befsT ops.toList 0 .leaf)[k]? = some b → (∀ o, ops[k]? = some o → ∀ e ∈ o.after, Region.binds .any e = true → D e.on = true) → ∀ n, Nat.testBit b n = true → D n = true := by
  intro k
  induction k using Nat.strongRecOn with
  | _ k ih =>
    intro b hb ho n hn
    have hlt : k < ops.size := by
      have := (List.getElem?_eq_some_iff.1 hb).1
      rw [befsT_length] at this; simpa using this
    have hk : ops[k]? = some ops[k] := Array.getElem?_eq_getElem hlt
    obtain ⟨e, h1, h2, h3⟩ := befs_at hk hb hn
    have hdone := ho _ hk e h1 h2
    rcases h3 with rfl | ⟨b', h3, h4⟩
    · exact hdone
    · have hbk := backB_spec (backsB_spec hback k ops[k] (by simp [hlt])) e (by simpa using h1) h2
      exact ih e.on (by omega) b' h3 (fun o' ho' => hD e.on o' ho' hdone) n h4

theorem all_done {listed : Array Bool} (hsz : listed.size = ops.size) (hback : backsB ops.toList 0 = true) (hr : Region.ready .any ops listed = []) : ∀ k, k < ops.size → dn listed k = true := by
  intro k
  induction k using Nat.strongRecOn with
  | _ k ih =>
    intro hk
    cases h : dn listed k with
    | true => rfl
    | false =>
      exfalso
      have : k ∈ Region.ready .any ops listed := by
        rw [mem_ready]
        refine ⟨?_, ops[k], Array.getElem?_eq_getElem hk, fun e he hb => ?_⟩
        · simp only [dn, Array.getD_eq_getD_getElem?] at h ⊢
          rw [Array.getElem?_eq_getElem (by omega)] at h ⊢
          exact h
        · have hbk := backB_spec (backsB_spec hback k ops[k] (by simp [hk])) e (by simpa using he) hb
          exact ih e.on (by omega) (by omega)
      rw [hr] at this; cases this

/-- How many are left. -/
def leftN (n : Nat) (listed : Array Bool) : List Nat := (List.range n).filter (fun k => !dn listed k)
theorem dn_set {listed : Array Bool} {j : Nat} (hj : j < listed.size) : dn (listed.setIfInBounds j true) = addD (dn listed) j := by
  funext k
  simp only [dn, addD, Array.getD_eq_getD_getElem?, Array.getElem?_setIfInBounds]
  by_cases c : j = k
  · subst c; simp [hj, Nat.beq_refl]
  · rw [if_neg c, (beq_false k j).2 (fun e => c e.symm), Bool.or_false]
theorem left_set {n : Nat} {listed : Array Bool} {j : Nat} (hj : j < listed.size) (hn : j < n) (hd : dn listed j = false) : (leftN n (listed.setIfInBounds j true)).length < (leftN n listed).length := by
  have : leftN n (listed.setIfInBounds j true) = (leftN n listed).filter (fun k => !Nat.beq k j) := by
    unfold leftN
    rw [List.filter_filter, dn_set hj]
    congr 1; funext k; simp only [addD]
    cases dn listed k <;> cases Nat.beq k j <;> rfl
  rw [this, List.length_filter_lt_length_iff_exists]
  refine ⟨j, ?_, by simp [Nat.beq_refl]⟩
  unfold leftN
  rw [List.mem_filter, List.mem_range]
  exact ⟨hn, by rw [hd]; rfl⟩
end

section
variable {E : Env} {ex : Ex} {Fn : Fence} {m nt : Nat} {ops : Array Oper} {S S' : TS} {tm tm' : Tm} {K : Kn} {β : Be} {w : World} {ds : List Deferred} {Q : Exit → Act → World → Prop}

theorem draw_any (hop : OperOk E ex) (hex : ExF ex) (hF : Wide Fn) {evs : List Ev} (hc : Chain E ex nt ops S.forb evs [] tm S tm' S') (hat : At E.P K β w S) (hback : backsB ops.toList 0 = true) (hdraw : drawOk ops.toList (planOf ops.toList) 0 = true)
    (hpl : evs.map (·.d) = planOf ops.toList) (hQ : ∀ β' w' a' D, (∀ e ∈ evs, D e.d.k = true) → Inv E.P nt evs tm S.next S'.next K β w ds D β' w' a' → Q .normal a' w') :
    ∀ (fuel : Nat) (listed : Array Bool) (β' : Be) (w' : World) (a' : Act), listed.size = ops.size → (leftN ops.size listed).length ≤ fuel → EClosed ops (dn listed) → Inv E.P nt evs tm S.next S'.next K β w ds (dn listed) β' w' a' →
      wpAnyIn Fn m E.P .any ops Q fuel listed a' w' := by
  have hmem : ∀ e ∈ evs, ops[e.d.k]? = some e.d.o ∧ (befsT ops.toList 0 .leaf)[e.d.k]? = some e.d.bef := fun e he => by
    have : e.d ∈ planOf ops.toList := by rw [← hpl]; exact List.mem_map.2 ⟨e, he, rfl⟩
    unfold planOf at this
    rw [plan_mem, dops_mem] at this
    obtain ⟨j, h1, h2, h3⟩ := this
    rw [Nat.zero_add] at h3; rw [h3]
    exact ⟨by simpa using h1, h2⟩
  have hhas : ∀ (j : Nat) (o : Oper), ops[j]? = some o → ∃ e ∈ evs, e.d.k = j := fun j o ho => by
    have hlt : j < ops.size := (Array.getElem?_eq_some_iff.1 ho).1
    have hb : ∃ b, (befsT ops.toList 0 .leaf)[j]? = some b := ⟨_, List.getElem?_eq_getElem (by rw [befsT_length]; simpa using hlt)⟩
    obtain ⟨b, hb⟩ := hb
    have : (⟨j, o, b⟩ : DOp) ∈ planOf ops.toList := by
      unfold planOf
      rw [plan_mem, dops_mem]
      exact ⟨j, by simpa using ho, hb, by simp⟩
    rw [← hpl] at this
    obtain ⟨e, he, h⟩ := List.mem_map.1 this
    exact ⟨e, he, by rw [h]⟩
  have hpw : evs.Pairwise (fun x y => Two ops.toList x.d y.d) := by
    have := drawOk_two hdraw
    rw [← hpl, List.pairwise_map] at this
    exact this
  have hlt : ∀ e ∈ evs, e.d.k < ops.size := fun e he => (Array.getElem?_eq_some_iff.1 (hmem e he).1).1
  intro fuel
  induction fuel with
  | zero =>
    intro listed β' w' a' hsz hle hcl hi
    have hall : ∀ k, k < ops.size → dn listed k = true := fun k hk => by
      cases h : dn listed k with
      | true => rfl
      | false =>
        have : k ∈ leftN ops.size listed := by unfold leftN; rw [List.mem_filter, List.mem_range]; exact ⟨hk, by rw [h]; rfl⟩
        have h0 : leftN ops.size listed = [] := List.length_eq_zero_iff.1 (by omega)
        rw [h0] at this; cases this
    refine ⟨?_, hQ β' w' a' _ (fun e he => hall _ (hlt e he)) hi⟩
    cases hr : Region.ready .any ops listed with
    | nil => rfl
    | cons j l =>
      exfalso
      have hj : j ∈ Region.ready .any ops listed := by rw [hr]; simp
      rw [mem_ready] at hj
      obtain ⟨h1, o, ho, _⟩ := hj
      have hjs := (Array.getElem?_eq_some_iff.1 ho).1
      have := hall j hjs
      simp only [dn, Array.getD_eq_getD_getElem?] at this h1
      rw [Array.getElem?_eq_getElem (by omega)] at this h1
      simp only [Option.getD_some] at this h1
      rw [h1] at this; cases this
  | succ fuel ih =>
    intro listed β' w' a' hsz hle hcl hi
    refine ⟨fun hr => hQ β' w' a' _ (fun e he => all_done hsz hback hr _ (hlt e he)) hi, fun j hj => ?_⟩
    rw [mem_ready] at hj
    obtain ⟨h1, o, ho, hedge⟩ := hj
    have hjs := (Array.getElem?_eq_some_iff.1 ho).1
    have hD : dn listed j = false := by
      simp only [dn, Array.getD_eq_getD_getElem?] at h1 ⊢
      rw [Array.getElem?_eq_getElem (by omega)] at h1 ⊢
      exact h1
    obtain ⟨e, he, rfl⟩ := hhas j o ho
    obtain ⟨hk, hb⟩ := hmem e he
    rw [hk] at ho; cases ho
    have hcl' : ∀ q ∈ evs, dn listed q.d.k = true → ∀ n, Nat.testBit q.d.bef n = true → dn listed n = true := fun q hq hd n hn =>
      bef_closed hback hcl q.d.k q.d.bef (hmem q hq).2 (fun o' ho' => hcl q.d.k o' ho' hd) n hn
    have hbef : ∀ n, Nat.testBit e.d.bef n = true → dn listed n = true := fun n hn =>
      bef_closed hback hcl e.d.k e.d.bef hb (fun o' ho' => by rw [hk] at ho'; cases ho'; exact hedge) n hn
    obtain ⟨A, B, rfl⟩ := List.append_of_mem he
    refine draw_step hop hex hF hc hat hpw hk hD hbef hcl' hi fun β2 w2 a2 hi2 => ?_
    have hset := dn_set (listed := listed) (j := e.d.k) (by omega)
    refine ih _ β2 w2 a2 (by simpa using hsz) ?_ ?_ (by rw [hset]; exact hi2)
    · have := left_set (n := ops.size) (listed := listed) (j := e.d.k) (by omega) hjs hD
      omega
    · rw [hset]
      intro k o' ho' hd ed hed hbi
      by_cases c : k = e.d.k
      · subst c; rw [hk] at ho'; cases ho'
        exact addD_of (hedge ed hed hbi)
      · rw [addD_ne c] at hd
        exact addD_of (hcl k o' ho' hd ed hed hbi)

/-- The executor is right about regions whose order is open. -/
theorem draw_ok (hm : E.P.follows .mixedOrders = true) (hop : OperOk E ex) (hex : ExF ex) (hF : Wide Fn) {id : Nat} {a : Act} {outs : List Out} (h : sRegion ops true E ex Fn.round.isSome nt tm S = some outs) (hat : At E.P K β w S) (ht : tmRel β nt tm a.tmps) :
    (Code.region id ops true).wpIn Fn m E.P (Post E.P nt outs K β w S a.defers) a w := by
  simp only [sRegion] at h
  split at h
  · cases h
  · rename_i hok
    simp only [Bool.and_eq_true] at hok
    obtain ⟨l0, h1, rfl⟩ := outs_some h
    obtain ⟨evs, tm2, S2, rfl, hpl, hc⟩ := runDraw_trace h1
    have hat0 : At E.P K β w.drew S := hat.drew
    have hlist : dn (Array.replicate ops.size false) = fun _ => false := by
      funext k
      simp only [dn, Array.getD_eq_getD_getElem?, Array.getElem?_replicate]
      split <;> rfl
    have hnone : ∀ {α : Type} {hit : Ev → Prop} {val : Ev → α} {x : α}, pickE (fun _ => false) hit val evs x = x := pickE_none (fun _ _ x => by cases x)
    have hK0 : layK (fun _ => false) evs K = K := funext fun i => hnone
    have htop := chain_top hex hc hat.low
    refine wpIn_region_any hm (draw_any (S := S) (S' := S2) (tm := tm) (tm' := tm2) (K := K) (β := β) (w := w.drew) (ds := a.defers) hop hex hF hc hat0 hok.1 hok.2 hpl ?_ ops.size _ β w.drew a (by simp) ?_ ?_ ?_)
    · intro β' w' a' D hall hi
      have tf := tf_chain hex hc hat.low
      have hDall : ∀ {α : Type} {hit : Ev → Prop} {val : Ev → α} {x : α}, pickE D hit val evs x = pickE allD hit val evs x := pickE_congr (fun e he _ => hall e he)
      refine ⟨_, List.mem_map.2 ⟨(tm2, S2), List.mem_singleton.2 rfl, rfl⟩, layK D evs K, β', rfl, Step.of_drew ⟨hi.rep, hi.ext, ?_, tf.2⟩, ?_, hi.dfr⟩
      · have : layK D evs K = layK allD evs K := funext fun i => hDall
        rw [this]
        exact chain_turn hex hc hat.low K
      · exact tmRel_get hi.tmr fun t => by rw [chain_tm hc, layTm_get htop, layTm_get htop, hDall]
    · unfold leftN
      exact Nat.le_trans (List.length_filter_le _ _) (by simp)
    · rw [hlist]; intro k o _ hd; cases hd
    · rw [hlist]
      exact ⟨by rw [hK0]; exact hat0.rep, by rw [hK0]; exact Ext.refl K β w.drew _ _, fun i h1 h2 => absurd h1 h2, tmRel_get ht fun t => by rw [layTm_get htop]; exact hnone, rfl⟩
end
end Go.TX

/-
The executor is right.
-/
namespace Go.TX

theorem exec_ok {E : Env} (hy : Hyp E) : ∀ n, CodeOk E (exec E n) ∧ LoopOk E (exec E n) n
  | 0 => ⟨fun F m nt c tm S outs K β w a _ h => by simp [exec] at h, fun F m nt c tm S outs K β w a _ h => by simp [exec] at h⟩
  | n + 1 => by
    obtain ⟨hex, hlp⟩ := exec_ok hy n
    have hop := operOk hy hex
    have loops : LoopOk E (exec E (n + 1)) (n + 1) := by
      intro F m nt c tm S outs K β w a hF h hat ht
      have h : sLoop c E (exec E n) F.round.isSome nt tm S = some outs := h
      exact loop_ok hex hlp hF h hat ht
    refine ⟨?_, loops⟩
    intro F m nt c tm S outs K β w a hF h hat ht
    have h' : stepFn c E (exec E n) F.round.isSome nt tm S = some outs := h
    cases c <;> simp only [stepFn, sOne, sNone] at h' <;> first | (cases h'; done) | skip
    case skip =>
      simp only [M.one, Option.some.injEq] at h'
      exact wpIn_skip (one_ok (t := .normal) rfl h'.symm hat ht)
    case ret =>
      simp only [M.one, Option.some.injEq] at h'
      exact wpIn_ret (one_ok (t := .ret) rfl h'.symm hat ht)
    case exit i =>
      simp only [M.one, Option.some.injEq] at h'
      exact wpIn_exit (one_ok (t := .exit i) rfl h'.symm hat ht)
    case seq x y => exact seq_ok hex hF h' hat ht
    case cond x y z => exact cond_ok hex hF h' hat ht
    case block i b => exact block_ok hex hF h' hat ht
    case loop b => exact wpIn_loop_rounds (n + 1) (loops F m nt b tm S outs K β w a hF h hat ht)
    case region i ops draw =>
      cases draw with
      | false => exact region_ok hop hF h' hat ht
      | true => exact draw_ok hy.mixed hop (exF n) hF h' hat ht
    case rangeFunc f ps as bd => exact range_ok hy hex hF h' hat ht

/-- A closed call that hands back true. -/
theorem callsTrue_ok {E : Env} (hy : Hyp E) {n : Nat} {f : FuncId} {args : List TV} {vs : Array Value} (h : callsTrue E n f args = true) (hbody : f ∉ E.tr) (hf : ∃ fn c, E.P.funcs[f]? = some fn ∧ fn.body = some c)
    (hr : rels (fun _ => none) args vs.toList) (w : World) : Calls E.P f vs w (fun e w' => e = .returned (.bool true) ∧ Go.RowKit.Below w.heap.size w w') := by
  obtain ⟨fn, c, hf, hb⟩ := hf
  have hex := (exec_ok hy n).1
  have hat : At E.P (fun _ => none) (fun _ => none) w ⟨.leaf, 0, [], []⟩ := by
    refine ⟨fun i o e => ?_, ⟨fun i o e => (by cases e), fun i j o o' p q e => (by cases e), fun r m since seen kt es clock e => (by cases e)⟩, ⟨fun i _ => rfl, Nat.zero_le _⟩, fun _ _ => rfl⟩
    simp [TS.get, TS.vis, Tree.get_leaf] at e
  unfold callsTrue at h
  split at h
  · rename_i S' hct
    unfold callT at hct
    split at hct
    · rename_i hm
      exact absurd ((memN_iff f E.tr).1 hm) hbody
    · rw [Array.getElem?_toList, hf] at hct
      simp only [hb] at hct
      have := bodyT_ok hex (m := 0) hf hb hct hat hr
      rw [callsIn_wide] at this
      refine this.mono ?_
      rintro e w' ⟨q, hq, K', β', v, rfl, hv, st⟩
      simp only [List.mem_singleton] at hq; subst hq
      simp only [rel] at hv
      refine ⟨by rw [hv], st.ext.os, st.ext.tape, st.ext.output, st.ext.size, fun k hk => st.ext.same k hk (fun j o q e => (by cases e))⟩
  · cases h
end Go.TX

/-
A function's body, run piece by piece: between two pieces the state stands written out, less of it where less will do.
-/
namespace Go.TX

/-- From here on the body comes to true. -/
def Good (E : Env) (nt : Nat) (fn : Func) (c : Code) (tm : Tm) (S : TS) : Prop :=
  ∀ (m : Nat) (K : Kn) (β : Be) (w : World) (a : Act) (R : Ending → World → Prop), At E.P K β w S → tmRel β nt tm a.tmps → a.defers = [] →
    (∀ K' β' w', Ext K β w K' β' w' 0 top → R (.returned (.bool true)) w') → c.wpIn Fence.wide m E.P (bodyPostM Fence.wide m E.P fn R) a w

/-- Less is known of the temporaries. -/
def TmLe (nt : Nat) (tm' tm : Tm) : Prop := ∀ t, (t < nt → tm'.get t = tm.get t ∨ tm'.get t = some .un) ∧ (nt ≤ t → tm'.get t = none)
/-- Less is known of memory. -/
structure SLe (S' S : TS) : Prop where
  next : S'.next = S.next
  get : ∀ i o, S'.get i = some o → S.get i = some o
  low : Low S'

theorem TmLe.rel {nt : Nat} {tm' tm : Tm} (h : TmLe nt tm' tm) {β : Be} {T : Array Value} (ht : tmRel β nt tm T) : tmRel β nt tm' T :=
  ⟨ht.1, fun t => by
    rcases Nat.lt_or_ge t nt with c | c
    · rcases (h t).1 c with e | e
      · rw [e]; exact ht.2 t
      · rw [e]; simp only [Option.getD, TX.rel]
    · rw [(h t).2 c, Array.getD_eq_getD_getElem?, Array.getElem?_eq_none (by rw [ht.1]; exact c)]
      exact undef_rel β⟩
theorem SLe.at {P : Program} {S' S : TS} (h : SLe S' S) {K : Kn} {β : Be} {w : World} (hat : At P K β w S) : At P K β w S' :=
  ⟨fun i o e => hat.sup i o (h.get i o e), hat.rep, h.low, fun i hi => hat.free i (by rw [← h.next]; exact hi)⟩
theorem Step.ext' {P : Program} {K K' : Kn} {β β' : Be} {w w' : World} {S S' : TS} (st : Step P K β w S K' β' w' S') : Ext K β w K' β' w' 0 top :=
  st.ext.wide (Nat.zero_le _) st.low.2

section
variable {E : Env} {n nt : Nat} {fn : Func}

theorem good_seq (hy : Hyp E) {x y : Code} {tm tm1 tm' : Tm} {S S1 S' : TS} (h : exec E n false nt x tm S = some [⟨.normal, tm1, [], S1⟩]) (ht' : TmLe nt tm' tm1) (hS' : SLe S' S1) (hy' : Good E nt fn y tm' S') :
    Good E nt fn (.seq x y) tm S := by
  intro m K β w a R hat ht hd hR
  refine wpIn_seq (wpIn_mono ((exec_ok hy n).1 Fence.wide m nt x tm S _ K β w a (.inl rfl) h hat ht) fun e a1 w1 hp => ?_)
  obtain ⟨o, ho, K1, β1, e1, st, ht1, hd1⟩ := hp
  simp only [List.mem_singleton] at ho; subst ho
  simp only [exitRel] at e1; subst e1
  have hd1 : a1.defers = a.defers := hd1
  exact hy' m K1 β1 w1 a1 R (hS'.at (st.at hat)) (ht'.rel ht1) (hd1.trans hd) fun K' β' w' x => hR K' β' w' (st.ext'.join x)

theorem good_last (hy : Hyp E) {c : Code} {tm tm1 : Tm} {S S1 : TS} (h : exec E n false nt c tm S = some [⟨.ret, tm1, [], S1⟩]) (hr : resultT E.P tm1 S1 fn.results.toList = some (.bool true)) :
    Good E nt fn c tm S := by
  intro m K β w a R hat ht hd hR
  refine wpIn_mono ((exec_ok hy n).1 Fence.wide m nt c tm S _ K β w a (.inl rfl) h hat ht) fun e a1 w1 hp => ?_
  obtain ⟨o, ho, K1, β1, e1, st, ht1, hd1⟩ := hp
  simp only [List.mem_singleton] at ho; subst ho
  simp only [exitRel] at e1; subst e1
  have hd1 : a1.defers = a.defers := hd1
  obtain ⟨V, h1, h2⟩ := resultT_run (w := w1) st.rep (st.turn.sup hat.sup) ht1 hr
  simp only [rel] at h2; subst h2
  show LeavesInM Fence.wide m E.P fn a1.tmps R a1.defers .returning w1
  rw [hd1, hd]
  exact ⟨_, h1, hR K1 β1 w1 st.ext'⟩

/-- A call whose body comes to true. -/
theorem good_calls {f : FuncId} {body : Code} {args : List TV} {vs : Array Value} (hf : E.P.funcs[f]? = some fn) (hb : fn.body = some body) (hr : rels (fun _ => none) args vs.toList) (hle : args.length ≤ fn.ntmps) (hnt : fn.ntmps < top)
    (h : Good E fn.ntmps fn body (layArgs args 0 .leaf) ⟨.leaf, 0, [], []⟩) (w : World) : Calls E.P f vs w (fun e w' => e = .returned (.bool true) ∧ Go.RowKit.Below w.heap.size w w') := by
  have hat : At E.P (fun _ => none) (fun _ => none) w ⟨.leaf, 0, [], []⟩ := by
    refine ⟨fun i o e => ?_, ⟨fun i o e => (by cases e), fun i j o o' p q e => (by cases e), fun r m since seen kt es clock e => (by cases e)⟩, ⟨fun i _ => rfl, Nat.zero_le _⟩, fun _ _ => rfl⟩
    simp [TS.get, TS.vis, Tree.get_leaf] at e
  have : CallsIn Fence.wide 0 E.P f vs w (fun e w' => e = .returned (.bool true) ∧ Go.RowKit.Below w.heap.size w w') :=
    callsIn_of_wp_marks hf hb trivial (h 0 (fun _ => none) (fun _ => none) w { tmps := vs ++ Array.replicate (fn.ntmps - vs.size) undef, defers := [] } _ hat (enter_rel hr hle hnt) rfl
      (fun K' β' w' x => ⟨rfl, x.os, x.tape, x.output, x.size, fun k hk => x.same k hk (fun j o q e => (by cases e))⟩))
  rw [callsIn_wide] at this
  exact this
end

/-! ### States written out -/
noncomputable def mkT {α : Type} : List (Nat × α) → Tree α
  | [] => .leaf
  | (i, a) :: l => (mkT l).set i a
noncomputable def mkS (k : Nat) (L : List (Nat × TObj)) : TS := ⟨mkT L, k, [], []⟩
theorem mkT_some {α : Type} : ∀ {l : List (Nat × α)} {i : Nat} {a : α}, (mkT l).get i = some a → (i, a) ∈ l
  | [], i, a, h => by simp only [mkT, Tree.get_leaf] at h; cases h
  | (j, b) :: l, i, a, h => by
    simp only [mkT] at h
    rcases Tree.set_some _ _ _ _ _ h with ⟨rfl, rfl⟩ | h
    · simp
    · exact List.mem_cons_of_mem _ (mkT_some h)

noncomputable def heapLe (H : Tree TObj) (k : Nat) : List (Nat × TObj) → Bool
  | [] => true
  | (i, o) :: l => match Nat.blt i k, H.get i with
    | true, some o' => match TObj.beq o o' with
      | true => heapLe H k l
      | false => false
    | _, _ => false
theorem heapLe_spec {H : Tree TObj} {k : Nat} : ∀ {l : List (Nat × TObj)}, heapLe H k l = true → ∀ p ∈ l, p.1 < k ∧ H.get p.1 = some p.2
  | [], _, p, hp => by simp at hp
  | (i, o) :: l, h, p, hp => by
    simp only [heapLe] at h
    split at h
    · rename_i o' h1 h2
      split at h
      · rename_i hb
        rcases List.mem_cons.1 hp with rfl | hp
        · exact ⟨(blt_iff _ _).1 h1, by rw [TObj.beq_eq hb]; exact h2⟩
        · exact heapLe_spec h p hp
      · cases h
    · cases h
def isUn : TV → Bool
  | .un => true
  | _ => false
def oneLe (a b : Option TV) : Bool := match a with
  | none => match b with
    | none => true
    | some _ => false
  | some x => match isUn x with
    | true => true
    | false => match b with
      | some y => TV.beq x y
      | none => false
/-- The temporaries below a number are as is said, those that stand on a list left out. -/
noncomputable def tmLe (tm' tm : Tm) (ps : List Nat) : Nat → Bool
  | 0 => true
  | t + 1 => match memN t ps || oneLe (tm'.get t) (tm.get t) with
    | true => tmLe tm' tm ps t
    | false => false
theorem oneLe_spec {a b : Option TV} (h : oneLe a b = true) : a = b ∨ a = some .un := by
  unfold oneLe at h
  split at h
  · split at h
    · exact .inl rfl
    · cases h
  · rename_i x
    split at h
    · rename_i hu
      cases x <;> simp only [isUn] at hu <;> first | (cases hu; done) | exact .inr rfl
    · split at h
      · exact .inl (by rw [TV.beq_eq h])
      · cases h
theorem tmLe_spec {tm' tm : Tm} {ps : List Nat} : ∀ {n : Nat}, tmLe tm' tm ps n = true → ∀ t, t < n → t ∈ ps ∨ tm'.get t = tm.get t ∨ tm'.get t = some .un
  | 0, _, t, ht => absurd ht (Nat.not_lt_zero _)
  | n + 1, h, t, ht => by
    simp only [tmLe] at h
    split at h
    · rename_i hc
      rcases Nat.lt_or_ge t n with x | x
      · exact tmLe_spec h t x
      · obtain rfl : t = n := by omega
        rw [Bool.or_eq_true] at hc
        rcases hc with hc | hc
        · exact .inl ((memN_iff _ _).1 hc)
        · exact .inr (oneLe_spec hc)
    · cases h
def allLt (n : Nat) : List (Nat × TV) → Bool
  | [] => true
  | (i, _) :: l => match Nat.blt i n with
    | true => allLt n l
    | false => false
theorem allLt_spec {n : Nat} : ∀ {l : List (Nat × TV)}, allLt n l = true → ∀ p ∈ l, p.1 < n
  | [], _, p, hp => by simp at hp
  | (i, v) :: l, h, p, hp => by
    simp only [allLt] at h
    split at h
    · rename_i h1
      rcases List.mem_cons.1 hp with rfl | hp
      · exact (blt_iff _ _).1 h1
      · exact allLt_spec h p hp
    · cases h

noncomputable def gets (tm : Tm) : List Nat → List (Option TV)
  | [] => []
  | t :: l => tm.get t :: gets tm l
/-- A piece's run: does it come to what is written? If so: the temporaries on the list. -/
noncomputable def segP (E : Env) (n nt : Nat) (x : Code) (tm : Tm) (S : TS) (k : Nat) (L : List (Nat × TObj)) (Lt : List (Nat × TV)) (ps : List Nat) : Option (List (Option TV)) :=
  match exec E n false nt x tm S with
  | some [o] => match o.e, o.defs, o.S.forb with
    | .normal, [], [] => match Nat.beq o.S.next k && Nat.ble k top && Nat.ble nt top, heapLe o.S.heap k L, tmLe (mkT Lt) o.tm ps nt, allLt nt Lt with
      | true, true, true, true => some (gets o.tm ps)
      | _, _, _, _ => none
    | _, _, _ => none
  | _ => none

def zipL : List Nat → List TV → List (Nat × TV)
  | t :: ps, v :: vs => (t, v) :: zipL ps vs
  | _, _ => []
theorem zip_get {tm0 tm : Tm} : ∀ {ps : List Nat} {vs : List TV}, gets tm ps = vs.map some → (∀ t ∈ ps, t < top) → ∀ t, (t ∈ ps → ((zipL ps vs).foldr (fun p acc => acc.set p.1 p.2) tm0).get t = tm.get t) ∧ (t ∉ ps → ((zipL ps vs).foldr (fun p acc => acc.set p.1 p.2) tm0).get t = tm0.get t)
  | [], [], _, _, t => by simp [zipL]
  | [], _ :: _, h, _, t => by simp [gets] at h
  | _ :: _, [], h, _, t => by simp [gets] at h
  | p :: ps, v :: vs, h, hlt, t => by
    simp only [gets, List.map_cons, List.cons.injEq] at h
    obtain ⟨i1, i2⟩ := zip_get (tm0 := tm0) h.2 (fun t ht => hlt t (List.mem_cons_of_mem _ ht)) t
    have hg := Tree.get_set v ((zipL ps vs).foldr (fun p acc => acc.set p.1 p.2) tm0) p t (hlt p (by simp))
    simp only [zipL, List.foldr_cons]
    constructor
    · intro ht
      rw [hg]
      by_cases e : t = p
      · subst e; rw [if_pos rfl]; exact h.1.symm
      · rw [if_neg e]
        rcases List.mem_cons.1 ht with x | x
        · exact absurd x e
        · exact i1 x
    · intro ht
      simp only [List.mem_cons, not_or] at ht
      rw [hg, if_neg ht.1]
      exact i2 ht.2
/-- The temporaries written out, those of the list as they were handed on. -/
noncomputable def mkTm (Lt : List (Nat × TV)) (ps : List Nat) (vs : List TV) : Tm := (zipL ps vs).foldr (fun p acc => acc.set p.1 p.2) (mkT Lt)

def allBl (n : Nat) : List Nat → Bool
  | [] => true
  | t :: l => match Nat.blt t n with
    | true => allBl n l
    | false => false
theorem allBl_spec {n : Nat} : ∀ {l : List Nat}, allBl n l = true → ∀ t ∈ l, t < n
  | [], _, t, h => by simp at h
  | a :: l, h, t, ht => by
    simp only [allBl] at h
    split at h
    · rename_i h1
      rcases List.mem_cons.1 ht with rfl | ht
      · exact (blt_iff _ _).1 h1
      · exact allBl_spec h t ht
    · cases h

theorem good_seg {E : Env} {n nt : Nat} {fn : Func} (hy : Hyp E) {x y : Code} {tm : Tm} {S : TS} {k : Nat} {L : List (Nat × TObj)} {Lt : List (Nat × TV)} {ps : List Nat} {vs : List TV}
    (hps : allBl nt ps = true)
    (h : segP E n nt x tm S k L Lt ps = some (vs.map some)) (hy' : Good E nt fn y (mkTm Lt ps vs) (mkS k L)) : Good E nt fn (.seq x y) tm S := by
  unfold segP at h
  split at h
  · rename_i o ho
    split at h
    · rename_i he hd hf
      split at h
      · rename_i h1 h2 h3 h4
        simp only [Bool.and_eq_true, beq_iff, ble_iff] at h1
        simp only [Option.some.injEq] at h
        have hx : exec E n false nt x tm S = some [⟨.normal, o.tm, [], o.S⟩] := by
          rw [ho]; cases o; simp only at he hd ⊢; subst he; subst hd; rfl
        have hbl := allBl_spec hps
        refine good_seq hy hx (fun t => ?_) ⟨h1.1.1.symm, fun i ob hg => ?_, ⟨fun i hi => ?_, h1.1.2⟩⟩ hy'
        · obtain ⟨z1, z2⟩ := zip_get (tm0 := mkT Lt) h (fun t ht => Nat.lt_of_lt_of_le (hbl t ht) h1.2) t
          refine ⟨fun c => ?_, fun c => ?_⟩
          · by_cases hm : t ∈ ps
            · exact .inl (z1 hm)
            · rcases tmLe_spec h3 t c with y | y | y
              · exact absurd y hm
              · exact .inl ((z2 hm).trans y)
              · exact .inr ((z2 hm).trans y)
          · refine (z2 (fun hm => by have := hbl t hm; omega)).trans ?_
            cases hg : (mkT Lt).get t with
            | none => rfl
            | some v => have := allLt_spec h4 _ (mkT_some hg); simp only at this; omega
        · have hg' := (get_vis hg).2
          obtain ⟨_, hh⟩ := heapLe_spec h2 _ (mkT_some hg')
          refine get_of ?_ hh
          unfold TS.vis; rw [hf]; rfl
        · cases hg : (mkT L).get i with
          | none => exact hg
          | some ob => 
            have := (heapLe_spec h2 _ (mkT_some hg)).1
            have hi : k ≤ i := hi
            simp only at this; omega
      · cases h
    · cases h
  · cases h

/-- The last piece's run. -/
noncomputable def lastP (E : Env) (n nt : Nat) (rs : List ResultVar) (x : Code) (tm : Tm) (S : TS) : Bool :=
  match exec E n false nt x tm S with
  | some [o] => match o.e, o.defs with
    | .ret, [] => match resultT E.P o.tm o.S rs with
      | some (.bool true) => true
      | _ => false
    | _, _ => false
  | _ => false
theorem good_end {E : Env} {n nt : Nat} {fn : Func} (hy : Hyp E) {x : Code} {tm : Tm} {S : TS} (h : lastP E n nt fn.results.toList x tm S = true) : Good E nt fn x tm S := by
  unfold lastP at h
  split at h
  · rename_i o ho
    split at h
    · rename_i he hd
      split at h
      · rename_i hr
        refine good_last (n := n) hy (tm1 := o.tm) (S1 := o.S) ?_ hr
        rw [ho]; cases o; simp only at he hd ⊢; subst he; subst hd; rfl
      · cases h
    · cases h
  · cases h
end Go.TX
