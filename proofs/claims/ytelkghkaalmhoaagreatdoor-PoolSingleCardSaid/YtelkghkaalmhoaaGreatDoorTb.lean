/- The executor T: maps, iterations, append, calls, loops, ranges over functions: each is as the model does it. -/
import Derived.Test.YtelkghkaalmhoaaGreatDoorTa
import Derived.Maps.RangeRun
import Derived.Laws.BytesString
import Derived.Below

/-
Maps: looked up, written, taken from: what the executor says of them the model does.
-/
namespace Go.TX
open Go.MapKept
section
variable {P : Program} {β : Be} {w : World} {K : Kn} {S : TS}

theorem MapRel.stamped {kt : TypeId} {es : List TEnt} {E : Array MapEntry} {clock : Nat} (h : MapRel P β kt es E clock) : Stamped E clock := ⟨h.born, h.stamps, h.keys⟩

abbrev kks (es : List TEnt) : List Value := es.map fun e => kv e.key
theorem dis_iff {kt : TypeId} : ∀ {es : List TEnt}, (∀ e ∈ es, kFit P kt e.key = true) → (es.Pairwise (fun a b => kEq a.key b.key = false) ↔ (kks es).Nodup)
  | [], _ => by simp
  | e :: es, h => by
    have ih := dis_iff (es := es) (fun x hx => h x (by simp [hx]))
    simp only [List.pairwise_cons, kks, List.map_cons, List.nodup_cons, ih, List.mem_map, not_exists, not_and]
    constructor
    · rintro ⟨h1, h2⟩
      refine ⟨fun x hx e' => ?_, h2⟩
      exact (kEq_false (h e (by simp)) (h x (by simp [hx]))).1 (h1 x hx) e'.symm
    · rintro ⟨h1, h2⟩
      refine ⟨fun x hx => (kEq_false (h e (by simp)) (h x (by simp [hx]))).2 (fun e' => h1 x hx e'.symm), h2⟩

theorem findT_some {k v : TV} : ∀ {es : List TEnt}, findT k es = some v → ∃ e ∈ es, kEq k e.key = true ∧ e.val = v
  | [], h => by simp [findT] at h
  | e :: es, h => by
    simp only [findT] at h
    split at h
    · rename_i c; cases h; exact ⟨e, by simp, c, rfl⟩
    · obtain ⟨x, hx, r⟩ := findT_some h; exact ⟨x, by simp [hx], r⟩
theorem findT_none {k : TV} : ∀ {es : List TEnt}, findT k es = none → ∀ e ∈ es, kEq k e.key = false
  | [], _, e, he => by simp at he
  | x :: es, h, e, he => by
    simp only [findT] at h
    split at h
    · cases h
    · rename_i c
      rcases List.mem_cons.1 he with rfl | he
      · exact c
      · exact findT_none h e he

theorem nodup_inj {α : Type} {x : α} : ∀ {l : List α} {i j : Nat}, l.Nodup → l[i]? = some x → l[j]? = some x → i = j
  | [], i, j, _, h, _ => by simp at h
  | a :: l, 0, 0, _, _, _ => rfl
  | a :: l, 0, j + 1, hn, h, h' => by
    simp at h h'; subst h
    rw [List.nodup_cons] at hn
    exact absurd (List.mem_of_getElem? h') hn.1
  | a :: l, i + 1, 0, hn, h, h' => by
    simp at h h'; subst h'
    rw [List.nodup_cons] at hn
    exact absurd (List.mem_of_getElem? h) hn.1
  | a :: l, i + 1, j + 1, hn, h, h' => by
    rw [List.nodup_cons] at hn
    exact congrArg (· + 1) (nodup_inj (i := i) (j := j) hn.2 (by simpa using h) (by simpa using h'))
theorem nodup_key {E : Array MapEntry} (h : (E.toList.map (·.key)).Nodup) {a b : MapEntry} (ha : a ∈ E.toList) (hb : b ∈ E.toList) (e : a.key = b.key) : a = b := by
  obtain ⟨i, hi⟩ := List.getElem?_of_mem ha
  obtain ⟨j, hj⟩ := List.getElem?_of_mem hb
  have this : i = j := nodup_inj (x := a.key) h (by simp [hi]) (by simp [hj, e])
  rw [← this] at hj; exact Option.some.inj (hi.symm.trans hj)

theorem map_find {kt : TypeId} {es : List TEnt} {E : Array MapEntry} {clock : Nat} (h : MapRel P β kt es E clock) {k : TV} (hk : kFit P kt k = true) :
    ((Instr.findKey kt (kv k) E.toList).run P w = .ok none w ∧ findT k es = none ∧ ∀ e ∈ E.toList, e.key ≠ kv k) ∨
      ∃ j e v, (Instr.findKey kt (kv k) E.toList).run P w = .ok (some (j, e.val)) w ∧ E[j]? = some e ∧ e.key = kv k ∧ findT k es = some v ∧ rel β v e.val := by
  rcases findKey_run (w := w) hk E.toList (fun e he => by obtain ⟨a, ha, e'⟩ := h.fro e he; exact ⟨a.key, h.fit a ha, e'⟩) with ⟨g1, g2⟩ | ⟨j, e, g1, g2, g3⟩
  · refine .inl ⟨g1, ?_, g2⟩
    cases c : findT k es with
    | none => rfl
    | some v =>
      obtain ⟨e, he, hq, _⟩ := findT_some c
      obtain ⟨e', he', hk', _⟩ := h.to e he
      exact absurd (hk'.trans ((kEq_iff hk (h.fit e he)).1 hq).symm) (g2 e' he')
  · have hmem : e ∈ E.toList := List.mem_of_getElem? g2
    rw [Array.getElem?_toList] at g2
    cases c : findT k es with
    | none =>
      obtain ⟨a, ha, e'⟩ := h.fro e hmem
      have := (kEq_false hk (h.fit a ha)).1 (findT_none c a ha)
      exact absurd (g3.symm.trans e') this
    | some v =>
      obtain ⟨a, ha, hq, rfl⟩ := findT_some c
      obtain ⟨e', he', hk', hr⟩ := h.to a ha
      have : e' = e := nodup_key h.keys he' hmem (by rw [hk', g3, (kEq_iff hk (h.fit a ha)).1 hq])
      subst this
      exact .inr ⟨j, e', _, g1, g2, g3, rfl, hr⟩

theorem run_getMap {b : Nat} {E : Array MapEntry} {c : Nat} (h : w.heap[b]? = some (.map E c)) : (getObj b).run P w = .ok (.map E c) w := by simp [getObj, Sem.run, h]
theorem run_setMap {b : Nat} {E : Array MapEntry} {c : Nat} (h : w.heap[b]? = some (.map E c)) (o : Obj) : (setObj b o).run P w = .ok () (setO w b o) := by simp [setObj, Sem.run, h, setO]

theorem map_obj {i : Nat} {kt : TypeId} {es : List TEnt} {clock : Nat} (hrep : Rep P K β w) (hk : K i = some (.map kt es clock)) {p : Pl} (hp : β i = some p) :
    ∃ E, w.heap[p.b]? = some (.map E clock) ∧ MapRel P β kt es E clock := by
  obtain ⟨p', ob, hp', hb, ho⟩ := hrep.obj i _ hk trivial
  rw [hp] at hp'; cases hp'
  obtain ⟨E, rfl, h⟩ := ho
  exact ⟨E, hb, h⟩

theorem lookupT_run {t : TypeId} {m k r : TV} {ok : Bool} {vm vk : Value} (h : lookupT P S t m k ok = some r) (hrep : Rep P K β w) (hs : Sup S K) (hm : rel β m vm) (hkr : rel β k vk) :
    ∃ V, (Instr.lookup t vm vk ok).run P w = .ok V w ∧ rel β r V := by
  unfold lookupT at h
  split at h
  · rename_i kt et hu
    split at h
    · cases h
    · rename_i es hmo
      unfold mapOf at hmo
      rw [hu] at hmo
      simp only at hmo
      split at hmo
      · cases hmo
      · rename_i hfit
        have := rel_kv hfit hkr; subst this
        have fin : ∀ (E : Array MapEntry), (Instr.lookup t vm (kv k) ok).run P w = ((do Instr.checkKey E.isEmpty 10000 kt (kv k)
                                                                                        let (v, ok') ← match ← Instr.findKey kt (kv k) E.toList with
                                                                                          | some (_, v) => pure (v, true)
                                                                                          | none => pure (← zeroValue et, false)
                                                                                        pure (if ok then .tuple #[v, .bool ok'] else v) : Sem Value)).run P w →
            (((Instr.findKey kt (kv k) E.toList).run P w = .ok none w ∧ findT k es = none) ∨ ∃ j e v, (Instr.findKey kt (kv k) E.toList).run P w = .ok (some (j, e)) w ∧ findT k es = some v ∧ rel β v e) →
            ∃ V, (Instr.lookup t vm (kv k) ok).run P w = .ok V w ∧ rel β r V := by
          intro E e1 e2
          rw [e1]
          simp only [Sem.run_bind, checkKey_run hfit, Result.andThen_ok]
          rcases e2 with ⟨g1, g2⟩ | ⟨j, e, v, g1, g2, g3⟩
          · rw [g2] at h
            simp only at h
            split at h
            · cases h
            · rename_i z hz
              obtain ⟨v, hv, rfl⟩ := run_zero (w := w) hz
              simp only [g1, Result.andThen_ok, Sem.run_bind, hv, Sem.run_pure]
              split at h <;> cases h
              · exact ⟨_, rfl, by simp only [if_true, rel]; exact ⟨_, rfl, by rw [rels_cons]; exact ⟨_, _, rfl, rel_ofValue β v, by rw [rels_cons]; exact ⟨_, _, rfl, by simp only [rel], by rw [rels_nil]⟩⟩⟩⟩
              · exact ⟨_, rfl, by simpa using rel_ofValue β v⟩
          · rw [g2] at h
            simp only at h
            simp only [g1, Result.andThen_ok, Sem.run_bind, Sem.run_pure]
            split at h <;> cases h
            · exact ⟨_, rfl, by simp only [if_true, rel]; exact ⟨_, rfl, by rw [rels_cons]; exact ⟨_, _, rfl, g3, by rw [rels_cons]; exact ⟨_, _, rfl, by simp only [rel], by rw [rels_nil]⟩⟩⟩⟩
            · exact ⟨_, rfl, by simpa using g3⟩
        split at hmo
        · cases hmo
          simp only [rel] at hm; subst hm
          refine fin #[] ?_ (.inl ⟨?_, rfl⟩)
          · simp only [Instr.lookup, Sem.run_bind, run_und hu, Result.andThen_ok, Sem.run_pure]; rfl
          · rcases findKey_run (w := w) hfit [] (by simp) with ⟨g, _⟩ | ⟨j, e, _, g, _⟩
            · exact g
            · simp at g
        · rename_i i
          split at hmo
          · rename_i kt' es' clock hg
            split at hmo
            · rename_i hkt; have hkt := (beq_iff _ _).1 hkt; subst hkt
              cases hmo
              simp only [rel] at hm; obtain ⟨p, hp, rfl⟩ := hm
              obtain ⟨E, hE, hmr⟩ := map_obj hrep (hs i _ hg) hp
              refine fin E ?_ ?_
              · simp only [Instr.lookup, Sem.run_bind, run_und hu, Result.andThen_ok, run_getMap hE, Sem.run_pure]; rfl
              · rcases map_find (w := w) hmr hfit with ⟨g1, g2, _⟩ | ⟨j, e, v, g1, g2, g3, g4, g5⟩
                · exact .inl ⟨g1, g2⟩
                · exact .inr ⟨j, e.val, v, g1, g4, g5⟩
            · cases hmo
          · cases hmo
        · cases hmo
  · cases h

theorem rep_map {i : Nat} {kt : TypeId} {es es' : List TEnt} {clock clock' : Nat} {E E' : Array MapEntry} (hrep : Rep P K β w) (hk : K i = some (.map kt es clock)) {p : Pl} (hp : β i = some p)
    (hE : w.heap[p.b]? = some (.map E clock)) (hr : MapRel P β kt es' E' clock')
    (hc : (clock' = clock ∧ ∀ e' ∈ E'.toList, ∃ e ∈ E.toList, e.born = e'.born ∧ e.key = e'.key) ∨ clock' = clock + 1) :
    Rep P (upd K i (.map kt es' clock')) β (setO w p.b (.map E' clock')) ∧ ∀ lo hi, Ext K β w (upd K i (.map kt es' clock')) β (setO w p.b (.map E' clock')) lo hi := by
  refine rep_put hrep hk trivial hp ⟨E', rfl, hr⟩ fun r m since seen kt1 es1 clock1 hx e1 e2 => ?_
  have hrn : r ≠ i := fun x => by subst x; rw [upd_same] at e1; cases e1
  have hm : m = i := by rcases hx with x | x; exact absurd x hrn; exact x
  subst hm
  rw [upd_same] at e2; cases e2
  rw [upd_ne K _ hrn] at e1
  obtain ⟨h1, h2⟩ := hrep.iter r m since seen kt es clock e1 hk
  rcases hc with ⟨rfl, hc⟩ | rfl
  · refine ⟨h1, fun hcl => ?_⟩
    obtain ⟨pr, pm, Sn, E0, hpr, hpm, hi, hE0, hS, hf⟩ := h2 hcl
    rw [hp] at hpm; cases hpm
    rw [hE] at hE0; cases hE0
    have hne := hrep.sep r m _ _ pr p e1 hk trivial trivial hrn hpr hp
    refine ⟨pr, p, Sn, E', hpr, hp, (setO_ne w _ hne).trans hi, setO_same w _ (lt_of_get hE), ⟨hS.1, fun j k s hj hs e' he' => ?_⟩, hf⟩
    obtain ⟨e, he, b1, b2⟩ := hc e' he'
    rw [← b1, ← b2]; exact hS.2 j k s hj hs e he
  · exact ⟨by omega, fun x => by omega⟩

theorem setEnt_kks {kt : TypeId} {k v : TV} (hk : kFit P kt k = true) : ∀ {es : List TEnt}, (∀ e ∈ es, kFit P kt e.key = true) → kks (setEnt k v es) = kks es
  | [], _ => rfl
  | e :: es, h => by
    simp only [setEnt]
    split
    · rename_i c; simp only [kks, List.map_cons, (kEq_iff hk (h e (by simp))).1 c]
    · simp only [kks, List.map_cons]; rw [show List.map (fun e => kv e.key) (setEnt k v es) = List.map (fun e => kv e.key) es from setEnt_kks hk (fun x hx => h x (by simp [hx]))]
theorem setEnt_mem {kt : TypeId} {k v : TV} (hk : kFit P kt k = true) : ∀ {es : List TEnt}, (∀ e ∈ es, kFit P kt e.key = true) → (kks es).Nodup → ∀ e ∈ setEnt k v es, e = ⟨k, v⟩ ∨ (e ∈ es ∧ kv e.key ≠ kv k)
  | [], _, _, e, he => by simp [setEnt] at he
  | x :: es, h, hn, e, he => by
    simp only [kks, List.map_cons, List.nodup_cons] at hn
    simp only [setEnt] at he
    split at he
    · rename_i c
      have c := (kEq_iff hk (h x (by simp))).1 c
      rcases List.mem_cons.1 he with rfl | he
      · exact .inl rfl
      · refine .inr ⟨by simp [he], fun e' => hn.1 ?_⟩
        rw [← c, ← e']; exact List.mem_map.2 ⟨e, he, rfl⟩
    · rename_i c
      have c := (kEq_false hk (h x (by simp))).1 c
      rcases List.mem_cons.1 he with rfl | he
      · exact .inr ⟨by simp, fun e' => c e'.symm⟩
      · rcases setEnt_mem hk (fun y hy => h y (by simp [hy])) hn.2 e he with r | ⟨r1, r2⟩
        · exact .inl r
        · exact .inr ⟨by simp [r1], r2⟩
theorem kks_mem {es : List TEnt} {V : Value} (h : V ∈ kks es) : ∃ e ∈ es, V = kv e.key := by
  obtain ⟨e, he, h⟩ := List.mem_map.1 h; exact ⟨e, he, h.symm⟩

theorem mapRel_set {kt : TypeId} {es : List TEnt} {E : Array MapEntry} {clock : Nat} (h : MapRel P β kt es E clock) {k v : TV} {V : Value} (hk : kFit P kt k = true) (hv : rel β v V) {j : Nat} {e : MapEntry}
    (hj : E[j]? = some e) (he : e.key = kv k) : MapRel P β kt (setEnt k v es) (E.modify j fun x => { x with key := kv k, val := V }) clock ∧
      ∀ e' ∈ (E.modify j fun x => { x with key := kv k, val := V }).toList, ∃ e ∈ E.toList, e.born = e'.born ∧ e.key = e'.key := by
  have hst := stamped_modify h.stamped j (fun x => { x with key := kv k, val := V }) (fun _ _ => rfl) (fun x _ hx => by rw [hj] at hx; cases hx; exact he.symm)
  have hkeys := modify_keys (es := E) j (fun x => { x with key := kv k, val := V }) (fun x hx => by rw [hj] at hx; cases hx; exact he.symm)
  have hkk := setEnt_kks (v := v) hk h.fit
  have hnd := (dis_iff h.fit).1 h.dis
  have hfit : ∀ x ∈ setEnt k v es, kFit P kt x.key = true := fun x hx => by
    rcases setEnt_mem hk h.fit hnd x hx with rfl | ⟨hx, _⟩
    · exact hk
    · exact h.fit x hx
  have get : ∀ (n : Nat), (E.modify j fun x => { x with key := kv k, val := V })[n]? = if j = n then some { e with key := kv k, val := V } else E[n]? := fun n => by
    rw [Array.getElem?_modify]; split
    · rename_i q; subst q; rw [hj]; rfl
    · rfl
  refine ⟨{ fit := hfit, dis := (dis_iff hfit).2 (hkk ▸ hnd), keys := hkeys ▸ h.keys, size := ?_, to := fun x hx => ?_, fro := fun x hx => ?_, born := hst.1, stamps := hst.2.1 }, fun x hx => ?_⟩
  · have : (kks (setEnt k v es)).length = (kks es).length := by rw [hkk]
    simp only [kks, List.length_map] at this
    rw [this, ← h.size]; simp
  · rcases setEnt_mem hk h.fit hnd x hx with rfl | ⟨hx, hne⟩
    · refine ⟨{ e with key := kv k, val := V }, ?_, rfl, hv⟩
      exact List.mem_of_getElem? (i := j) (by rw [Array.getElem?_toList, get, if_pos rfl])
    · obtain ⟨e', he', hk', hr⟩ := h.to x hx
      obtain ⟨n, hn⟩ := List.getElem?_of_mem he'
      refine ⟨e', List.mem_of_getElem? (i := n) ?_, hk', hr⟩
      rw [Array.getElem?_toList, get, if_neg, ← Array.getElem?_toList, hn]
      intro q; subst q
      rw [Array.getElem?_toList, hj] at hn; cases hn
      exact hne (hk'.symm.trans he)
  · have : x.key ∈ (E.modify j fun x => { x with key := kv k, val := V }).toList.map (·.key) := List.mem_map.2 ⟨x, hx, rfl⟩
    rw [hkeys] at this
    obtain ⟨y, hy, hxy⟩ := List.mem_map.1 this
    obtain ⟨a, ha, hya⟩ := h.fro y hy
    have : x.key ∈ kks (setEnt k v es) := by rw [hkk, ← hxy, hya]; exact List.mem_map.2 ⟨a, ha, rfl⟩
    exact kks_mem this
  · obtain ⟨n, hn⟩ := List.getElem?_of_mem hx
    rw [Array.getElem?_toList, get] at hn
    split at hn
    · cases hn
      exact ⟨e, List.mem_of_getElem? (i := j) (by rw [Array.getElem?_toList]; exact hj), rfl, he⟩
    · exact ⟨x, List.mem_of_getElem? (i := n) (by rw [Array.getElem?_toList]; exact hn), rfl, rfl⟩

theorem mapRel_push {kt : TypeId} {es : List TEnt} {E : Array MapEntry} {clock : Nat} (h : MapRel P β kt es E clock) {k v : TV} {V : Value} (hk : kFit P kt k = true) (hv : rel β v V) (hne : ∀ e ∈ E.toList, e.key ≠ kv k) :
    MapRel P β kt (es ++ [{ key := k, val := v }]) (E.push { key := kv k, val := V, born := clock }) (clock + 1) := by
  have hst := stamped_push h.stamped (key := kv k) (val := V) hne
  have hfit : ∀ x ∈ es ++ [{ key := k, val := v }], kFit P kt x.key = true := fun x hx => by
    rcases List.mem_append.1 hx with hx | hx
    · exact h.fit x hx
    · simp at hx; subst hx; exact hk
  refine { fit := hfit, dis := ?_, keys := hst.2.2, size := by simp [h.size], to := fun x hx => ?_, fro := fun x hx => ?_, born := hst.1, stamps := hst.2.1 }
  · refine (dis_iff hfit).2 ?_
    simp only [kks, List.map_append, List.map_cons, List.map_nil]
    refine List.nodup_append.2 ⟨(dis_iff h.fit).1 h.dis, by simp, fun a ha b hb => ?_⟩
    simp at hb; subst hb
    obtain ⟨e, he, rfl⟩ := kks_mem ha
    obtain ⟨e', he', hk', _⟩ := h.to e he
    rw [← hk']; exact hne e' he'
  · rcases List.mem_append.1 hx with hx | hx
    · obtain ⟨e', he', hk', hr⟩ := h.to x hx
      exact ⟨e', by simp; exact .inl (by simpa using he'), hk', hr⟩
    · simp at hx; subst hx
      exact ⟨{ key := kv k, val := V, born := clock }, by simp, rfl, hv⟩
  · simp only [Array.toList_push, List.mem_append, List.mem_singleton] at hx
    rcases hx with hx | rfl
    · obtain ⟨a, ha, e⟩ := h.fro x hx; exact ⟨a, by simp [ha], e⟩
    · exact ⟨{ key := k, val := v }, by simp, rfl⟩

theorem mapPut_run {t : TypeId} {m k v : TV} {S' : TS} {vm vk vv : Value} (h : mapPut P S t m k v = some S') (hrep : Rep P K β w) (hs : Sup S K) (hl : Low S) (hm : rel β m vm) (hkr : rel β k vk) (hv : rel β v vv) :
    OpOk P K β w S ((do Instr.mapUpdate t vm vk vv; pure .skip : Sem Next).run P w) (.tup []) S' := by
  unfold mapPut at h
  split at h
  · rename_i kt et i hu
    split at h
    · cases h
    · rename_i hfit
      have := rel_kv hfit hkr; subst this
      split at h
      · rename_i kt' es clock hg
        split at h
        · cases h
        · rename_i hkt; have hkt := (beq_iff _ _).1 hkt; subst hkt
          simp only [rel] at hm; obtain ⟨p, hp, rfl⟩ := hm
          have hK := hs i _ hg
          obtain ⟨E, hE, hmr⟩ := map_obj hrep hK hp
          rcases map_find (w := w) hmr hfit with ⟨g1, g2, g3⟩ | ⟨j, e, v0, g1, g2, g3, g4, g5⟩
          · rw [g2] at h; cases h
            obtain ⟨r1, r2⟩ := rep_map hrep hK hp hE (mapRel_push hmr hfit hv g3) (.inr rfl)
            obtain ⟨t1, t2⟩ := turn_put (K := K) (o := .map kt (es ++ [{ key := k, val := v }]) (clock + 1)) hl hg
            refine ⟨.skip, _, β, _, ?_, rfl, r1, r2 _ _, t1, t2⟩
            simp only [Instr.mapUpdate, Sem.run_bind, run_und hu, Result.andThen_ok, run_getMap hE, checkKey_run hfit, g1, run_setMap hE, Sem.run_pure]
          · rw [g4] at h; cases h
            obtain ⟨m1, m2⟩ := mapRel_set hmr hfit hv g2 g3
            obtain ⟨r1, r2⟩ := rep_map hrep hK hp hE m1 (.inl ⟨rfl, m2⟩)
            obtain ⟨t1, t2⟩ := turn_put (K := K) (o := .map kt (setEnt k v es) clock) hl hg
            refine ⟨.skip, _, β, _, ?_, rfl, r1, r2 _ _, t1, t2⟩
            have hold : ((E[j]?).map (·.key)).getD (kv k) = kv k := by rw [g2]; exact g3
            simp only [Instr.mapUpdate, Sem.run_bind, run_und hu, Result.andThen_ok, run_getMap hE, checkKey_run hfit, g1, hold, keyStays_run hfit, run_setMap hE, Sem.run_pure]
      · cases h
  · cases h

theorem dropEnt_none {k : TV} : ∀ {es : List TEnt}, findT k es = none → dropEnt k es = es
  | [], _ => rfl
  | e :: es, h => by
    simp only [findT] at h
    split at h
    · cases h
    · rename_i c; simp only [dropEnt, c]; rw [dropEnt_none h]
theorem dropEnt_spec {kt : TypeId} {k : TV} (hk : kFit P kt k = true) : ∀ {es : List TEnt}, (∀ e ∈ es, kFit P kt e.key = true) → (kks es).Nodup →
    (∀ e, e ∈ dropEnt k es ↔ (e ∈ es ∧ kv e.key ≠ kv k)) ∧ (dropEnt k es).Sublist es ∧ (∀ v, findT k es = some v → (dropEnt k es).length + 1 = es.length)
  | [], _, _ => ⟨by simp [dropEnt], List.Sublist.refl _, by simp [findT]⟩
  | x :: es, h, hn => by
    simp only [kks, List.map_cons, List.nodup_cons] at hn
    obtain ⟨i1, i2, i3⟩ := dropEnt_spec hk (es := es) (fun y hy => h y (by simp [hy])) hn.2
    simp only [dropEnt, findT]
    split
    · rename_i c
      have c := (kEq_iff hk (h x (by simp))).1 c
      refine ⟨fun e => ?_, List.sublist_cons_self _ _, fun v _ => rfl⟩
      constructor
      · intro he
        exact ⟨by simp [he], fun e' => hn.1 (by rw [← c, ← e']; exact List.mem_map.2 ⟨e, he, rfl⟩)⟩
      · rintro ⟨he, hne⟩
        rcases List.mem_cons.1 he with rfl | he
        · exact absurd c.symm hne
        · exact he
    · rename_i c
      have c := (kEq_false hk (h x (by simp))).1 c
      refine ⟨fun e => ?_, i2.cons_cons x, fun v hv => by simp [i3 v hv]⟩
      simp only [List.mem_cons, i1 e]
      constructor
      · rintro (rfl | ⟨a, b⟩)
        · exact ⟨.inl rfl, fun e' => c e'.symm⟩
        · exact ⟨.inr a, b⟩
      · rintro ⟨rfl | a, b⟩
        · exact .inl rfl
        · exact .inr ⟨a, b⟩

theorem mapRel_drop {kt : TypeId} {es : List TEnt} {E : Array MapEntry} {clock : Nat} (h : MapRel P β kt es E clock) {k v : TV} (hk : kFit P kt k = true) {j : Nat} {e : MapEntry}
    (hj : E[j]? = some e) (he : e.key = kv k) (hf : findT k es = some v) : MapRel P β kt (dropEnt k es) (E.eraseIdxIfInBounds j) clock ∧
      ∀ e' ∈ (E.eraseIdxIfInBounds j).toList, ∃ e ∈ E.toList, e.born = e'.born ∧ e.key = e'.key := by
  have hst := stamped_erase h.stamped j
  have hnd := (dis_iff h.fit).1 h.dis
  obtain ⟨d1, d2, d3⟩ := dropEnt_spec hk h.fit hnd
  have hlt : j < E.size := (Array.getElem?_eq_some_iff.1 hj).1
  have hel : (E.eraseIdxIfInBounds j).toList = E.toList.eraseIdx j := by
    unfold Array.eraseIdxIfInBounds; rw [dif_pos hlt, Array.toList_eraseIdx]
  have sub : ∀ x ∈ (E.eraseIdxIfInBounds j).toList, x ∈ E.toList := fun x hx => by rw [hel] at hx; exact (List.eraseIdx_sublist _ _).subset hx
  have hjl : E.toList[j]? = some e := by rw [Array.getElem?_toList]; exact hj
  have nk : ∀ x, x ∈ (E.eraseIdxIfInBounds j).toList ↔ x ∈ E.toList ∧ x.key ≠ kv k := fun x => by
    rw [hel]
    have hkn := h.keys
    constructor
    · intro hx
      refine ⟨(List.eraseIdx_sublist _ _).subset hx, fun ek => ?_⟩
      obtain ⟨n, hn, hx'⟩ := List.mem_eraseIdx_iff_getElem?.1 hx
      have this : n = j := nodup_inj (x := kv k) hkn (by simp [hx', ek]) (by simp [hj, he])
      exact hn this
    · rintro ⟨hx, hne⟩
      obtain ⟨n, hn⟩ := List.getElem?_of_mem hx
      refine List.mem_eraseIdx_iff_getElem?.2 ⟨n, fun q => ?_, hn⟩
      subst q; rw [hjl] at hn; cases hn; exact hne he
  refine ⟨{ fit := fun x hx => h.fit x ((d1 x).1 hx).1, dis := h.dis.sublist d2, keys := hst.2.2, size := ?_, to := fun x hx => ?_, fro := fun x hx => ?_, born := hst.1, stamps := hst.2.1 }, fun x hx => ⟨x, sub x hx, rfl, rfl⟩⟩
  · have h1 := d3 v hf
    have h2 := h.size
    rw [← Array.length_toList, hel, List.length_eraseIdx_of_lt (by simpa using hlt), Array.length_toList]; omega
  · obtain ⟨hx1, hx2⟩ := (d1 x).1 hx
    obtain ⟨e', he', hk', hr⟩ := h.to x hx1
    exact ⟨e', (nk e').2 ⟨he', by rw [hk']; exact hx2⟩, hk', hr⟩
  · obtain ⟨hx1, hx2⟩ := (nk x).1 hx
    obtain ⟨a, ha, e1⟩ := h.fro x hx1
    exact ⟨a, (d1 a).2 ⟨ha, by rw [← e1]; exact hx2⟩, e1⟩

theorem mapDel_run {t : TypeId} {m k : TV} {S' : TS} {vm vk : Value} {ts : Array TypeId} {ty : TypeId} (ht : ts[0]? = some t) (h : mapDel P S t m k = some S') (hrep : Rep P K β w) (hs : Sup S K) (hl : Low S) (hm : rel β m vm) (hkr : rel β k vk) :
    OpOk P K β w S ((do pure (.value (← Builtin.delete_ ts ty #[vm, vk])) : Sem Next).run P w) (.tup []) S' := by
  unfold mapDel at h
  split at h
  · rename_i kt et hu
    split at h
    · cases h
    · rename_i hfit
      have := rel_kv hfit hkr; subst this
      split at h
      · cases h
        simp only [rel] at hm; subst hm
        refine ⟨.value (.tuple #[]), w, β, K, ?_, ?_, hrep, Ext.refl K β w _ _, Turn.refl K S, hl⟩
        · simp only [Builtin.delete_, ht, Sem.run_bind, run_und hu, Result.andThen_ok, checkKey_run hfit, Sem.run_pure, List.getElem?_toArray, List.getElem?_cons_zero, List.getElem?_cons_succ]
        · simp only [gives, rel]; exact ⟨_, rfl, by rw [rels_nil]⟩
      · rename_i i
        split at h
        · rename_i kt' es clock hg
          split at h
          · cases h
          · rename_i hkt; have hkt := (beq_iff _ _).1 hkt; subst hkt
            cases h
            simp only [rel] at hm; obtain ⟨p, hp, rfl⟩ := hm
            have hK := hs i _ hg
            obtain ⟨E, hE, hmr⟩ := map_obj hrep hK hp
            obtain ⟨t1, t2⟩ := turn_put (K := K) (o := .map kt (dropEnt k es) clock) hl hg
            rcases map_find (w := w) hmr hfit with ⟨g1, g2, g3⟩ | ⟨j, e, v0, g1, g2, g3, g4, g5⟩
            · have hd := dropEnt_none g2
              obtain ⟨r1, r2⟩ := rep_map (es' := dropEnt k es) hrep hK hp hE (by rw [hd]; exact hmr) (.inl ⟨rfl, fun e' he' => ⟨e', he', rfl, rfl⟩⟩)
              refine ⟨.value (.tuple #[]), _, β, _, ?_, ?_, r1, r2 _ _, t1, t2⟩
              · simp only [Builtin.delete_, ht, Sem.run_bind, run_und hu, Result.andThen_ok, run_getMap hE, checkKey_run hfit, g1, run_setMap hE, Sem.run_pure, List.getElem?_toArray, List.getElem?_cons_zero, List.getElem?_cons_succ]
              · simp only [gives, rel]; exact ⟨_, rfl, by rw [rels_nil]⟩
            · obtain ⟨m1, m2⟩ := mapRel_drop hmr hfit g2 g3 g4
              obtain ⟨r1, r2⟩ := rep_map hrep hK hp hE m1 (.inl ⟨rfl, m2⟩)
              refine ⟨.value (.tuple #[]), _, β, _, ?_, ?_, r1, r2 _ _, t1, t2⟩
              · simp only [Builtin.delete_, ht, Sem.run_bind, run_und hu, Result.andThen_ok, run_getMap hE, checkKey_run hfit, g1, run_setMap hE, Sem.run_pure, List.getElem?_toArray, List.getElem?_cons_zero, List.getElem?_cons_succ]
              · simp only [gives, rel]; exact ⟨_, rfl, by rw [rels_nil]⟩
        · cases h
      · cases h
  · cases h
end
end Go.TX

/-
Ranges over maps and texts: what the executor says of them the model does.
-/
namespace Go.TX
open Go.MapKept
section
variable {P : Program} {β : Be} {w : World} {K : Kn} {S : TS}

/-- One of the outcomes comes about. -/
def OpsOk (P : Program) (K : Kn) (β : Be) (w : World) (S : TS) (run : Result Next) (l : List (TV × TS)) : Prop := ∃ q ∈ l, OpOk P K β w S run q.1 q.2

theorem rangeT_run {t : TypeId} {x r : TV} {S' : TS} {v : Value} (h : rangeT P S t x = some (r, S')) (hrep : Rep P K β w) (hs : Sup S K) (hl : Low S) (hf : Free β S.next S'.next) (hx : rel β x v) :
    OpOk P K β w S ((do pure (.value (← Instr.range t v)) : Sem Next).run P w) r S' := by
  have fin : ∀ (o : TObj) (ob : Obj), S.room = true → S' = S.new o → r = .ptr S.next 0 → (Instr.range t v).run P w = .ok (.pointer (some ⟨w.heap.size, 0, none⟩)) (push w ob) →
      (β S.next = none → objRel P (updB β S.next ⟨w.heap.size, 0, 0⟩) ⟨w.heap.size, 0, 0⟩ o ob) →
      (∀ m since seen kt es clock, o = .miter (some m) since seen → K m = some (.map kt es clock) →
      since ≤ clock ∧ (clock = since → ∃ pm S E, β m = some pm ∧ ob = .mapIter (some pm.b) since S since ∧ w.heap[pm.b]? = some (.map E clock) ∧ SeenOk seen S E ∧ ∀ k ∈ seen, kFit P kt k = true)) →
      OpOk P K β w S ((do pure (.value (← Instr.range t v)) : Sem Next).run P w) r S' := by
    intro o ob hr e1 e2 hrun hobj hit
    subst e1; subst e2
    have hn : β S.next = none := hf S.next (Nat.le_refl _) (Nat.lt_succ_self _)
    obtain ⟨t1, t2⟩ := turn_new (K := K) (o := o) hl hr
    obtain ⟨r1, r2⟩ := rep_new (sh := 0) (sz := 0) (o := o) (ob := ob) hrep hn (hobj hn) hit
    refine ⟨.value (.pointer (some ⟨w.heap.size, 0, none⟩)), _, _, _, ?_, ?_, r1, r2, t1, t2⟩
    · simp only [Sem.run_bind, hrun, Result.andThen_ok, Sem.run_pure]
    · simp only [gives, rel]; exact ⟨_, updB_same _ _ _, rfl⟩
  unfold rangeT at h
  split at h
  · rename_i s hu hr
    cases h
    simp only [rel] at hx; subst hx
    refine fin _ (.stringIter s 0) (by assumption) rfl rfl ?_ (fun _ => ⟨rfl, rfl⟩) (fun m since seen kt es clock e => by cases e)
    simp only [Instr.range, Sem.run_bind, run_und (by assumption), Result.andThen_ok, Sem.run_pure, run_newObj']
  · cases h
    simp only [rel] at hx; subst hx
    refine fin _ (.mapIter none 0 #[] 0) (by assumption) rfl rfl ?_ (fun _ => ⟨rfl, rfl, _, _, rfl⟩) (fun m since seen kt es clock e => by cases e)
    simp only [Instr.range, Sem.run_bind, run_und (by assumption), Result.andThen_ok, Sem.run_pure, run_newObj']
  · rename_i kt et i hu hr
    split at h
    · rename_i kt' es clock hg
      cases h
      simp only [rel] at hx; obtain ⟨p, hp, rfl⟩ := hx
      have hk := hs i _ hg
      obtain ⟨E, hE, hmr⟩ := map_obj hrep hk hp
      refine fin _ (.mapIter (some p.b) clock #[] clock) hr rfl rfl ?_ (fun hn => ⟨rfl, p, #[], Sub.updB _ hn _ _ hp, rfl⟩) ?_
      · simp only [Instr.range, Sem.run_bind, run_und hu, Result.andThen_ok, run_getMap hE, Sem.run_pure, run_newObj']
      · intro m since seen kt1 es1 clock1 e e'
        cases e
        rw [hk] at e'; cases e'
        exact ⟨Nat.le_refl _, fun _ => ⟨p, #[], E, hp, rfl, hE, ⟨rfl, fun j k s hj => by simp at hj⟩, by simp⟩⟩
    · cases h
  · cases h

theorem lastOr_eq : ∀ l : List TV, lastOr l = l.getLast?
  | [] => rfl
  | [a] => rfl
  | a :: b :: l => by simp only [lastOr, lastOr_eq (b :: l), List.getLast?_cons_cons]

theorem entryT_run {x r : TV} {v : Value} (h : entryT S x = some r) (hrep : Rep P K β w) (hs : Sup S K) (hx : rel β x v) : ∃ V, (Instr.entry v).run P w = .ok V w ∧ rel β r V := by
  unfold entryT at h
  split at h
  · rename_i i
    split at h
    · rename_i m since seen hg
      split at h
      · rename_i kt es clock hgm
        split at h
        · rename_i k hcl hlast
          have hcl := (beq_iff _ _).1 hcl; subst hcl
          rw [lastOr_eq] at hlast
          split at h
          · rename_i v0 hv0
            cases h
            simp only [rel] at hx; obtain ⟨p, hp, rfl⟩ := hx
            have hki := hs i _ hg
            have hkm := hs m _ hgm
            obtain ⟨p', ob, hp', hb, ho⟩ := hrep.obj i _ hki trivial
            rw [hp] at hp'; cases hp'
            obtain ⟨hsh, _⟩ := ho
            obtain ⟨_, h2⟩ := hrep.iter i m _ seen kt es _ hki hkm
            obtain ⟨pr, pm, Sn, E, hpr, hpm, hi, hE, hS, hf⟩ := h2 rfl
            rw [hp] at hpr; cases hpr
            obtain ⟨E', hE', hmr⟩ := map_obj hrep hkm hpm
            rw [hE] at hE'; cases hE'
            have hkmem : k ∈ seen := List.mem_of_getLast? hlast
            have hkf := hf k hkmem
            -- the last stamp
            rw [List.getLast?_eq_getElem?] at hlast
            have hne : 0 < seen.length := List.length_pos_of_mem hkmem
            obtain ⟨s, hs0⟩ : ∃ s, Sn[seen.length - 1]? = some s := by
              have : seen.length - 1 < Sn.size := by rw [← hS.1]; omega
              exact ⟨_, Array.getElem?_eq_getElem this⟩
            have hst := hS.2 _ k s hlast hs0
            rcases map_find (w := w) hmr hkf with ⟨_, g2, _⟩ | ⟨j, e, v1, g1, g2, g3, g4, g5⟩
            · rw [g2] at hv0; cases hv0
            · rw [g4] at hv0; cases hv0
              have hmem : e ∈ E.toList := List.mem_of_getElem? (i := j) (by rw [Array.getElem?_toList]; exact g2)
              have hborn : e.born = s := (hst e hmem).2 g3
              have hfind : E.find? (·.born == s) = some e := by
                rw [← Array.find?_toList, ← hborn]; exact find_born e E.toList hmr.stamps hmem
              have hback : Sn.back? = some s := by rw [Array.back?_eq_getElem?, ← hS.1]; exact hs0
              refine ⟨.tuple #[e.key, e.val], ?_, ?_⟩
              · rw [hsh]
                simp only [Instr.entry, getObj, Sem.run_bind, Sem.run, Nat.add_zero, hi, hE, Result.andThen, hback, bne_self_eq_false, Bool.false_eq_true, if_false, hfind]; rfl
              · simp only [rel]
                exact ⟨_, rfl, by rw [rels_cons]; exact ⟨_, _, rfl, by rw [g3]; exact kv_rel hkf, by rw [rels_cons]; exact ⟨_, _, rfl, g5, by rw [rels_nil]⟩⟩⟩
          · cases h
        · cases h
      · cases h
    · cases h
  · cases h

theorem seenK_iff {k : TV} : ∀ {l : List TV}, seenK k l = true ↔ ∃ j ∈ l, kEq j k = true
  | [] => by simp [seenK]
  | j :: l => by
    simp only [seenK]
    split
    · rename_i c; simp [c]
    · rename_i c; rw [seenK_iff (l := l)]; simp [c]
theorem unseen_mem {seen : List TV} : ∀ {es : List TEnt} {e : TEnt}, e ∈ unseen seen es ↔ e ∈ es ∧ seenK e.key seen = false
  | [], e => by simp [unseen]
  | x :: es, e => by
    simp only [unseen]
    split
    · rename_i c
      rw [unseen_mem (es := es)]
      constructor
      · rintro ⟨a, b⟩; exact ⟨by simp [a], b⟩
      · rintro ⟨a, b⟩
        rcases List.mem_cons.1 a with rfl | a
        · rw [c] at b; cases b
        · exact ⟨a, b⟩
    · rename_i c
      rw [List.mem_cons, unseen_mem (es := es), List.mem_cons]
      constructor
      · rintro (rfl | ⟨a, b⟩)
        · exact ⟨.inl rfl, c⟩
        · exact ⟨.inr a, b⟩
      · rintro ⟨rfl | a, b⟩
        · exact .inl rfl
        · exact .inr ⟨a, b⟩

theorem over_ok (hrep : Rep P K β w) (hl : Low S) {run : Result Next} (h : run = .ok (.value (.tuple #[.bool false])) w) : OpOk P K β w S run (.tup [.bool false]) S :=
  ⟨_, w, β, K, h, by simp only [gives, rel]; exact ⟨_, rfl, by rw [rels_cons]; exact ⟨_, _, rfl, by simp only [rel], by rw [rels_nil]⟩⟩, hrep, Ext.refl K β w _ _, Turn.refl K S, hl⟩

theorem decode_small {s : ByteArray} {pos : Nat} {b : UInt8} (h : (bl s)[pos]? = some b) (hb : b.toNat < 128) : pos < s.size ∧ Utf8.decode s pos = (b.toNat, 1) := by
  have hlt : pos < s.size := by rw [size_bl]; exact (List.getElem?_eq_some_iff.1 h).1
  refine ⟨hlt, ?_⟩
  have e : s.get! (pos + 0) = b := by
    have : (bl s)[pos]? = s.data[pos]? := by simp [bl]
    rw [this] at h
    show s.data[pos + 0]! = b
    rw [Nat.add_zero, getElem!_def, h]
  simp only [Utf8.decode, e]
  rw [if_pos (by omega)]

theorem nextT_run {x : TV} {b : Bool} {l : List (TV × TS)} {v : Value} {ty : TypeId} (h : nextT S x b = some l) (hrep : Rep P K β w) (hs : Sup S K) (hl : Low S) (hx : rel β x v) :
    OpsOk P K β w S ((do pure (.value (← Instr.next v b ty)) : Sem Next).run P w) l := by
  unfold nextT at h
  split at h
  · rename_i r
    simp only [rel] at hx; obtain ⟨p, hp, rfl⟩ := hx
    split at h
    · rename_i since seen hg
      simp only [M.one, Option.some.injEq] at h; subst h
      obtain ⟨p', ob, hp', hb, ho⟩ := hrep.obj r _ (hs r _ hg) trivial
      rw [hp] at hp'; cases hp'
      obtain ⟨hsh, _, Sn, st, rfl⟩ := ho
      refine ⟨_, List.mem_singleton.2 rfl, over_ok hrep hl ?_⟩
      rw [hsh]
      simp only [Instr.next, getObj, Sem.run_bind, Sem.run, Nat.add_zero, hb, Result.andThen]; rfl
    · rename_i m since seen hg
      split at h
      · rename_i kt es clock hgm
        split at h
        · cases h
        · rename_i hcl; have hcl := (beq_iff _ _).1 hcl; subst hcl
          have hki := hs r _ hg
          have hkm := hs m _ hgm
          obtain ⟨p', ob, hp', hb, ho⟩ := hrep.obj r _ hki trivial
          rw [hp] at hp'; cases hp'
          obtain ⟨hsh, _⟩ := ho
          obtain ⟨_, h2⟩ := hrep.iter r m _ seen kt es _ hki hkm
          obtain ⟨pr, pm, Sn, E, hpr, hpm, hi, hE, hS, hf⟩ := h2 rfl
          rw [hp] at hpr; cases hpr
          obtain ⟨E', hE', hmr⟩ := map_obj hrep hkm hpm
          rw [hE] at hE'; cases hE'
          -- an entry is left for the model if, and only if, its key is unseen
          have left : ∀ e ∈ E.toList, ∀ a ∈ es, e.key = kv a.key → (Sn.contains e.born = false ↔ seenK a.key seen = false) := by
            intro e he a ha hka
            have hfa := hmr.fit a ha
            rw [← Bool.not_eq_true, ← Bool.not_eq_true, seenK_iff]
            refine not_congr ?_
            constructor
            · intro hc
              have hc : e.born ∈ Sn.toList := by simpa using hc
              obtain ⟨j, hj⟩ := List.getElem?_of_mem hc
              rw [Array.getElem?_toList] at hj
              have hjl : j < seen.length := by rw [hS.1]; exact (Array.getElem?_eq_some_iff.1 hj).1
              have := (hS.2 j _ _ (List.getElem?_eq_getElem hjl) hj e he).1 rfl
              exact ⟨seen[j], List.getElem_mem hjl, (kEq_iff (hf _ (List.getElem_mem hjl)) hfa).2 (by rw [← this, hka])⟩
            · rintro ⟨k, hk, hq⟩
              obtain ⟨j, hj⟩ := List.getElem?_of_mem hk
              have hjl : j < Sn.size := by rw [← hS.1]; exact (List.getElem?_eq_some_iff.1 hj).1
              have := (hS.2 j k _ hj (Array.getElem?_eq_getElem hjl) e he).2 (by rw [hka, (kEq_iff (hf k hk) hfa).1 hq])
              simp only [Array.contains_iff_mem]
              rw [this]; exact Array.getElem_mem hjl
          have hrun := run_next_at (P := P) w ty p.b pm.b clock clock Sn E clock hi hE hmr.born (Nat.le_refl _)
          rw [hsh]
          rcases hrun with ⟨h0, hrun⟩ | ⟨e, he, w1, hw1, hrun⟩
          · have hnone : unseen seen es = [] := by
              cases c : unseen seen es with
              | nil => rfl
              | cons a rest =>
                have ha : a ∈ unseen seen es := by rw [c]; simp
                obtain ⟨ha1, ha2⟩ := unseen_mem.1 ha
                obtain ⟨e, he, hk', _⟩ := hmr.to a ha1
                have hc := (left e he a ha1 hk').2 ha2
                have hmem : e ∈ leftOf E Sn := by simp only [leftOf, Array.mem_filter]; exact ⟨by simpa using he, by simp only [hc, Bool.not_false]⟩
                have := Array.size_pos_of_mem hmem
                omega
            rw [hnone] at h
            simp only [M.one, Option.some.injEq] at h; subst h
            refine ⟨_, List.mem_singleton.2 rfl, over_ok hrep hl ?_⟩
            simp only [Sem.run_bind, Nat.add_zero, hrun, Result.andThen_ok, Sem.run_pure]
          · have he' : e ∈ E.toList ∧ Sn.contains e.born = false := by
              have : e ∈ leftOf E Sn := by simpa using he
              simp only [leftOf, Array.mem_filter, Bool.not_eq_true'] at this
              exact ⟨by simpa using this.1, this.2⟩
            obtain ⟨a, ha, hka⟩ := hmr.fro e he'.1
            have hua : a ∈ unseen seen es := unseen_mem.2 ⟨ha, (left e he'.1 a ha hka).1 he'.2⟩
            have hh : l = (unseen seen es).map fun e => (.tup [.bool true, e.key, e.val], S.put r (.miter (some m) clock (seen ++ [e.key]))) := by
              cases c : unseen seen es with
              | nil => rw [c] at hua; simp at hua
              | cons b rest => rw [c] at h; simp only [Option.some.injEq] at h; exact h.symm
            subst hh
            refine ⟨_, List.mem_map.2 ⟨a, hua, rfl⟩, ?_⟩
            have hrep1 : Rep P K β w1 := by
              rcases hw1 with rfl | rfl
              · exact hrep
              · exact hrep.heap rfl
            have hi1 : w1.heap = w.heap := by rcases hw1 with rfl | rfl <;> rfl
            have hfa := hmr.fit a ha
            obtain ⟨r1, r2⟩ := rep_put (o' := .miter (some m) clock (seen ++ [a.key])) (ob' := .mapIter (some pm.b) clock (Sn.push e.born) clock) hrep1 hki trivial hp ⟨hsh, pm, _, hpm, rfl⟩
              (fun r0 m0 since0 seen0 kt0 es0 clock0 hx e1 e2 => by
                have hmr0 : m ≠ r := fun x => by subst x; rw [hki] at hkm; cases hkm
                have hm0 : m0 ≠ r := fun x => by subst x; rw [upd_same] at e2; cases e2
                have hr0 : r0 = r := by rcases hx with x | x; exact x; exact absurd x hm0
                subst hr0
                rw [upd_same] at e1; cases e1
                rw [upd_ne K _ hmr0, hkm] at e2; cases e2
                refine ⟨Nat.le_refl _, fun _ => ⟨p, pm, _, E, hp, hpm, setO_same _ _ (by rw [hi1]; exact lt_of_get hi), ?_, ⟨by simp [hS.1], fun j k s hj hsj e' he0 => ?_⟩, fun k hk => ?_⟩⟩
                · have hne := hrep.sep m r0 _ _ pm p hkm hki trivial trivial hmr0 hpm hp
                  exact (setO_ne w1 _ hne).trans (by rw [hi1]; exact hE)
                · rw [List.getElem?_append] at hj
                  rw [Array.getElem?_push] at hsj
                  by_cases c : j < seen.length
                  · rw [if_pos c] at hj; rw [if_neg (by rw [← hS.1]; omega)] at hsj
                    exact hS.2 j k s hj hsj e' he0
                  · rw [if_neg c] at hj
                    have hj0 : j - seen.length = 0 := by
                      have := (List.getElem?_eq_some_iff.1 hj).1; simp at this; omega
                    rw [hj0] at hj; simp at hj; subst hj
                    rw [if_pos (by rw [← hS.1]; omega)] at hsj; cases hsj
                    constructor
                    · intro hb'
                      have : e' = e := by
                        obtain ⟨i1, hi1'⟩ := List.getElem?_of_mem he0
                        obtain ⟨i2, hi2'⟩ := List.getElem?_of_mem he'.1
                        have this : i1 = i2 := nodup_inj (x := e.born) hmr.stamps (by simp [hi1', hb']) (by simp [hi2'])
                        rw [this] at hi1'; exact Option.some.inj (hi1'.symm.trans hi2')
                      rw [this]; exact hka
                    · intro hk'
                      rw [nodup_key hmr.keys he0 he'.1 (by rw [hk', hka])]
                · rcases List.mem_append.1 hk with hk | hk
                  · exact hf k hk
                  · simp at hk; subst hk; exact hfa)
            obtain ⟨t1, t2⟩ := turn_put (K := K) (o := .miter (some m) clock (seen ++ [a.key])) hl hg
            obtain ⟨e', he0, hk', hr'⟩ := hmr.to a ha
            have : e' = e := nodup_key hmr.keys he0 he'.1 (by rw [hk', hka])
            subst this
            refine ⟨.value (.tuple #[.bool true, e'.key, e'.val]), _, β, _, ?_, ?_, r1, ?_, t1, t2⟩
            · simp only [Sem.run_bind, Nat.add_zero, hrun, Result.andThen_ok, Sem.run_pure]; rfl
            · simp only [gives, rel]
              exact ⟨_, rfl, by rw [rels_cons]; exact ⟨_, _, rfl, by simp only [rel], by rw [rels_cons]; exact ⟨_, _, rfl, by rw [hka]; exact kv_rel hfa, by rw [rels_cons]; exact ⟨_, _, rfl, hr', by rw [rels_nil]⟩⟩⟩⟩
            · have := r2 S.next (S.put r (.miter (some m) clock (seen ++ [a.key]))).next
              rcases hw1 with rfl | rfl
              · exact this
              · exact { this with }
      · cases h
    · cases h
  · rename_i r
    simp only [rel] at hx; obtain ⟨p, hp, rfl⟩ := hx
    split at h
    · rename_i s pos hg
      have hk := hs r _ hg
      obtain ⟨p', ob, hp', hb, ho⟩ := hrep.obj r _ hk trivial
      rw [hp] at hp'; cases hp'
      obtain ⟨hsh, rfl⟩ := ho
      rw [hsh]
      split at h
      · rename_i hnone
        simp only [M.one, Option.some.injEq] at h; subst h
        refine ⟨_, List.mem_singleton.2 rfl, over_ok hrep hl ?_⟩
        have : ¬ pos < s.size := by
          rw [size_bl]; intro c; rw [List.getElem?_eq_getElem c] at hnone; cases hnone
        simp only [Instr.next, getObj, Sem.run_bind, Sem.run, Nat.add_zero, hb, Result.andThen, this, if_false]; rfl
      · rename_i c hc
        split at h
        · rename_i hlt; have hlt := (blt_iff _ _).1 hlt
          simp only [M.one, Option.some.injEq] at h; subst h
          refine ⟨_, List.mem_singleton.2 rfl, ?_⟩
          obtain ⟨d1, d2⟩ := decode_small hc hlt
          obtain ⟨r1, r2⟩ := rep_put_plain (o' := .siter s (pos + 1)) (ob' := .stringIter s (pos + 1)) hrep hk trivial hp ⟨hsh, rfl⟩ trivial
          obtain ⟨t1, t2⟩ := turn_put (K := K) (o := .siter s (pos + 1)) hl hg
          refine ⟨.value (.tuple #[.bool true, .int .i64 pos, .int .i32 c.toNat]), _, β, _, ?_, ?_, r1, r2 _ _, t1, t2⟩
          · simp only [Instr.next, getObj, setObj, Sem.run_bind, Sem.run, Nat.add_zero, hb, Result.andThen, d1, if_true, d2]; rfl
          · simp only [gives, rel]
            exact ⟨_, rfl, by rw [rels_cons]; exact ⟨_, _, rfl, by simp only [rel], by rw [rels_cons]; exact ⟨_, _, rfl, by simp only [rel]; rfl, by rw [rels_cons]; exact ⟨_, _, rfl, by simp only [rel]; rfl, by rw [rels_nil]⟩⟩⟩⟩
        · cases h
    · cases h
  · cases h
end
end Go.TX

/-
'append', 'copy', 'clear', 'len', conversions: what the executor says of them the model does.
-/
namespace Go.TX
section
variable {P : Program} {β : Be} {w : World} {K : Kn} {S : TS}

theorem load_none (a : Addr) : (loadCells a 0).run P w = .ok #[] w := rfl

theorem cells_sl {a : Addr} {p : Pl} {c off : Nat} {n len z : Nat} (ha : c ≠ 0 → a = ⟨p.b, p.sh + off, none⟩) (hlc : len ≤ c) (hn : n ≤ len) {vs : List Value}
    (h : (loadCells ⟨p.b, p.sh + off, none⟩ (n * z)).run P w = .ok vs.toArray w) : (loadCells a (n * z)).run P w = .ok vs.toArray w := by
  by_cases hc : c = 0
  · have : n = 0 := by omega
    subst this
    rw [Nat.zero_mul] at h ⊢
    rw [load_none] at h ⊢
    exact h
  · rw [ha hc]; exact h

/-- What is appended, or copied: how long it is; its first cells. -/
theorem srcT_run {z : Nat} {x : TV} {n : Nat} {xs : List TV} {v : Value} (h : srcT S z x = some (n, xs)) (hrep : Rep P K β w) (hs : Sup S K) (hx : rel β x v) :
    (Builtin.lenOf v).run P w = .ok n w ∧ xs.length = n * z ∧ ∀ k, k ≤ n → ∃ vs, rels β (xs.take (k * z)) vs ∧ (Builtin.firstCells z k v).run P w = .ok vs.toArray w := by
  unfold srcT at h
  split at h
  · cases h
    simp only [rel] at hx; subst hx
    refine ⟨rfl, by simp, fun k hk => ⟨[], by simp [rels_nil], rfl⟩⟩
  · rename_i i off y len cap
    split at h
    · rename_i hy; have hy := (beq_iff _ _).1 hy; subst hy
      split at h
      · rename_i l hr
        cases h
        simp only [rel] at hx; obtain ⟨p, a, c, hp, rfl, hlc, ha, _⟩ := hx
        unfold rd at hr
        split at hr
        · rename_i cs fz hg
          obtain ⟨p', ob, hp', hb, ho⟩ := hrep.obj i _ (hs i _ hg) trivial
          rw [hp] at hp'; cases hp'
          obtain ⟨t1, t2⟩ := takeT_some hr
          refine ⟨rfl, by rw [t2, List.length_take]; omega, fun k hk => ?_⟩
          have hkz : k * y ≤ n * y := Nat.mul_le_mul_right _ hk
          have htk : takeT (k * y) (dropT off cs) = some (xs.take (k * y)) := by
            have : ∀ (m : Nat) (l : List TV), m ≤ l.length → takeT m l = some (l.take m) := by
              intro m; induction m with
              | zero => intro l _; simp [takeT]
              | succ m ih =>
                intro l hl
                cases l with
                | nil => simp at hl
                | cons v l => simp only [takeT, ih l (by simpa using hl), List.take_succ_cons]
            rw [this _ _ (by omega), t2, List.take_take, Nat.min_eq_left hkz]
          obtain ⟨vs, h1, h2, h3⟩ := rd_cells hb ho htk
          have := run_loadCells_list (P := P) w ⟨p.b, p.sh + off, none⟩ vs h3
          rw [h2] at this
          exact ⟨vs, h1, cells_sl ha hlc hk this⟩
        · cases hr
      · cases h
    · cases h
  · rename_i s
    split at h
    · cases h
      simp only [rel] at hx; subst hx
      refine ⟨by simp [Builtin.lenOf, size_bl], by simp, fun k hk => ⟨((bl s).take k).map fun b => .int .u8 b.toNat, ?_, ?_⟩⟩
      · refine rels_of_get (by simp) fun j x v hx hv => ?_
        simp only [Nat.mul_one, List.getElem?_take, List.getElem?_map] at hx hv
        split at hx
        · rename_i hj
          rw [if_pos hj] at hv
          cases hb : (bl s)[j]? with
          | none => rw [hb] at hx; simp at hx
          | some b => rw [hb] at hx hv; simp at hx hv; subst hx; subst hv; simp only [rel]
        · cases hx
      · simp only [Builtin.firstCells, Sem.run_pure]
        congr 1
        apply Array.ext'
        rw [Array.toList_map, ByteArray.data_extract, Array.toList_extract]
        simp [bl]
    · cases h
  · cases h

theorem rels_take {l : List TV} {vs : List Value} (h : rels β l vs) (n : Nat) : rels β (l.take n) (vs.take n) := by
  refine rels_of_get (by simp [rels_length h]) fun j x v hx hv => ?_
  rw [List.getElem?_take] at hx hv
  split at hx
  · rename_i c; rw [if_pos c] at hv
    obtain ⟨u, hu, hr⟩ := rels_get h j x hx
    rw [hu] at hv; cases hv; exact hr
  · cases hx

theorem cut_ge (need old : Nat) (e : TypeId) (t : Nat) : need ≤ (Question.appendCap need old e).cut t := Nat.le_add_right _ _

/-- 'append' of what is no number of elements, its length known. -/
def appTail (size bytes : Nat) (e : TypeId) (base : Option Addr) (sLen sCap n : Nat) (x : Value) : Sem Value :=
  if sLen + n ≤ sCap then do
    let new ← Builtin.firstCells size n x
    match base with
    | some a => do
      storeCells (a.add (sLen * size)) new.toList
      pure (.slice base (sLen + n) sCap)
    | none => pure (.slice base (sLen + n) sCap)
  else do
    let newCap ← choose (.appendCap (sLen + n) sCap e)
    askRoom (newCap * bytes)
    let old ← Builtin.firstCells size sLen (.slice base sLen sCap)
    let new ← Builtin.firstCells size n x
    let zero ← zeroValue e
    let a ← newRow e (old ++ new ++ Builtin.zeroCells zero.cells (newCap - (sLen + n)))
    pure (.slice (some a) (sLen + n) newCap)

theorem append_tail {t u e : TypeId} {ts : Array TypeId} {ty : TypeId} {info : TypeInfo} {d : TypeDesc} {base : Option Addr} {len c n : Nat} {vx : Value} (ht : ts[0]? = some t) (hu1 : ts[1]? = some u) (hue : P.underlying t = some (.slice e)) (hut : P.underlying u = some d)
    (hni : ∀ k, d ≠ .int k) (hi : P.info? e = some info) (hn : (Builtin.lenOf vx).run P w = .ok n w) (h1 : len + n ≤ c ∨ (len + n ≤ 8589934592 ∧ info.bytes ≤ 4096)) :
    (Builtin.append_ ts ty #[.slice base len c, vx]).run P w = (appTail info.size info.bytes e base len c n vx).run P w := by
  have hsize : ∀ w', (sizeOf e).run P w' = .ok info.size w' := fun w' => by simp only [sizeOf, Sem.run_bind, run_typeInfo' hi, Result.andThen_ok, Sem.run_pure]
  have hti : ∀ w', (typeInfo e).run P w' = .ok info w' := fun w' => run_typeInfo' hi
  have main : (Builtin.append_ ts ty #[.slice base len c, vx]).run P w = (do
      if len + n ≤ c then
        let new ← Builtin.firstCells info.size n vx
        if let some a := base then storeCells (a.add (len * info.size)) new.toList
        pure (.slice base (len + n) c)
      else
        if ((len + n : Nat) : Int) > IntKind.i64.max ∧ (false = true ∨ (← typeInfo e).bytes = 0) then runtimePanic (.error "growslice: len out of range")
        if Builtin.nextslicecap (len + n) c * (← typeInfo e).bytes > 2 ^ 48 then (do
          if !(← Builtin.mayShare info.size len n base vx) then mark .noRoom
          unsupported (.resourceLimit "append: a slice or a string whose bytes no memory bears"))
        let newCap ← choose (.appendCap (len + n) c e)
        askRoom (newCap * (← typeInfo e).bytes)
        let old ← Builtin.firstCells info.size len (.slice base len c)
        let new ← Builtin.firstCells info.size n vx
        let rest := Builtin.zeroCells (← zeroValue e).cells (newCap - (len + n))
        pure (.slice (some (← newRow e (old ++ new ++ rest))) (len + n) newCap) : Sem Value).run P w := by
    cases d <;> first
      | exact (hni _ rfl).elim
      | (simp only [Builtin.append_, ht, hu1, List.getElem?_toArray, List.getElem?_cons_zero, List.getElem?_cons_succ, Sem.run_bind, run_und hue, run_und hut, Result.andThen_ok, Sem.run_pure, hsize, Bool.false_eq_true, if_false, Bool.not_false, if_true, hn]; rfl)
  rw [main]
  unfold appTail
  by_cases hle : len + n ≤ c
  · simp only [hle, if_true, Sem.run_bind]
    congr 1; funext new w'
    cases base <;> simp
  · simp only [hle, if_false]
    obtain ⟨b1, b2⟩ := h1.resolve_left hle
    have hmul : (len + n) * info.bytes ≤ 140737488355328 := by
      have := Nat.mul_le_mul b1 b2
      exact Nat.le_trans this (by decide)
    have h48 := growslice_fits (need := len + n) (old := c) (bytes := info.bytes) (by omega) hmul
    have h48' : ¬ (Builtin.nextslicecap (len + n) c * info.bytes > 2 ^ 48) := by
      have : (2 : Nat) ^ 48 = 281474976710656 := by decide
      omega
    have h63 : ¬ (((len + n : Nat) : Int) > IntKind.i64.max) := by
      have : IntKind.i64.max = 9223372036854775807 := by decide
      omega
    simp only [Sem.run_bind, hti, Result.andThen_ok, h63, false_and, if_false, Sem.run_pure, h48']

/-- Growing into a new block: the run. -/
theorem grow_run {size bytes : Nat} {e : TypeId} {info : TypeInfo} {zv : Value} {base : Option Addr} {len c n : Nat} {vx : Value} {ov nv : List Value} (hi : P.info? e = some info) (hz : info.zero = some zv) (hzs : zv.cells.size = size)
    (hgt : ¬ (len + n ≤ c)) (h1 : (Builtin.firstCells size len (.slice base len c)).run P w.drew = .ok ov.toArray w.drew) (h2 : (Builtin.firstCells size n vx).run P w.drew = .ok nv.toArray w.drew)
    (l1 : ov.length = len * size) (l2 : nv.length = n * size) :
    ∃ newCap C, len + n ≤ newCap ∧ C.size = newCap * size ∧ (∀ j, j < (ov ++ nv).length → C[j]? = (ov ++ nv)[j]?) ∧ (appTail size bytes e base len c n vx).run P w = .ok (.slice (some ⟨w.heap.size, 0, none⟩) (len + n) newCap) (push w.drew (.cells C e)) := by
  have hge := cut_ge (len + n) c e (w.tape w.drawn (.appendCap (len + n) c e))
  refine ⟨(Question.appendCap (len + n) c e).cut (w.tape w.drawn (.appendCap (len + n) c e)), ov.toArray ++ nv.toArray ++ Builtin.zeroCells zv.cells ((Question.appendCap (len + n) c e).cut (w.tape w.drawn (.appendCap (len + n) c e)) - (len + n)), hge, ?_, ?_, ?_⟩
  · simp only [Array.size_append, List.size_toArray, l1, l2, Builtin.zeroCells, Array.size_map, Array.size_range, hzs]
    rw [← Nat.add_mul, ← Nat.add_mul]; congr 1; omega
  · intro j hj
    rw [Array.getElem?_append_left (by simpa using hj)]
    simp
  · unfold appTail
    have hzr : ∀ w', (zeroValue e).run P w' = .ok zv w' := fun w' => by simp only [zeroValue, Sem.run_bind, run_typeInfo' hi, Result.andThen_ok, hz, Sem.run_pure]
    have hch : (choose (.appendCap (len + n) c e)).run P w = .ok ((Question.appendCap (len + n) c e).cut (w.tape w.drawn (.appendCap (len + n) c e))) w.drew := by
      rw [run_choose]; simp only [Question.forced, Bool.false_eq_true, if_false]; rfl
    simp only [hgt, if_false, Sem.run_bind, hch, Result.andThen_ok, run_askRoom, h1, h2, hzr, run_newRow', Sem.run_pure]
    rfl

theorem srcT_drew {K : Kn} (hrep : Rep P K β w) : Rep P K β w.drew := hrep.heap rfl

/-- What behind a growth is known. -/
theorem grow_ok {len n z newCap i : Nat} {l : List TV} {fz : Bool} {C : Array Value} {e : TypeId} {S' : TS} (ha : allocT S l fz = some (i, S')) (hrep : Rep P K β w) (hl : Low S) (hf : Free β S.next S'.next)
    (hle : len + n ≤ newCap) (hC : C.size = newCap * z) (hll : l.length = (len + n) * z) {ws : List Value} (hr : rels β l ws) (hget : ∀ j, j < ws.length → C[j]? = ws[j]?)
    {run : Result Next} (hrun : run = .ok (.value (.slice (some ⟨w.heap.size, 0, none⟩) (len + n) newCap)) (push w.drew (.cells C e))) :
    OpOk P K β w S run (.sl i 0 z (len + n) none) S' := by
  obtain ⟨rfl, r1, r2, t1, t2, hn⟩ := alloc_new (w := w.drew) (e := e) (f := (0, 0)) (C := C) ha (hrep.heap rfl) hl hf (.inl rfl) (by rw [hll, hC]; exact Nat.mul_le_mul_right _ hle)
    (fun j x hx => by
      obtain ⟨v, hv, hrv⟩ := rels_get hr j x hx
      exact ⟨v, by rw [hget j (List.getElem?_eq_some_iff.1 hv).1]; exact hv, hrv⟩)
  refine ⟨_, _, _, _, hrun, ?_, r1, { r2 with }, t1, t2⟩
  simp only [gives, rel]
  exact ⟨_, _, _, updB_same _ _ _, rfl, hle, fun _ => rfl, by simp only [capOk, hC]; omega, rfl⟩

theorem take_len {n : Nat} {l r : List TV} (h : takeT n l = some r) : r.length = n := by
  obtain ⟨h1, h2⟩ := takeT_some h; rw [h2, List.length_take]; omega
theorem rd_len {i off n : Nat} {l : List TV} (h : rd S i off n = some l) : l.length = n := by
  unfold rd at h; split at h
  · exact take_len h
  · cases h

theorem appendT_run {t u : TypeId} {s x r : TV} {S' : TS} {vs vx : Value} {ts : Array TypeId} {ty : TypeId} (ht : ts[0]? = some t) (hu1 : ts[1]? = some u) (h : appendT P S t u s x = some (r, S')) (hrep : Rep P K β w) (hs : Sup S K) (hl : Low S) (hf : Free β S.next S'.next)
    (hsr : rel β s vs) (hxr : rel β x vx) : OpOk P K β w S ((do pure (.value (← Builtin.append_ ts ty #[vs, vx])) : Sem Next).run P w) r S' := by
  unfold appendT at h
  split at h
  · cases h
  · rename_i e d hni hue hut
    have hni : ∀ k, d ≠ .int k := fun k e => hni k e
    split at h
    · cases h
    · rename_i info hi
      split at h
      · cases h
      · cases h
      · rename_i z zv hsz hzero
        split at h
        · cases h
        · rename_i n xs hsrc
          split at h
          · cases h
          · rename_i hb
            simp only [Bool.and_eq_true, ble_iff, beq_iff, smallLen] at hb
            obtain ⟨hn, hbytes, hzs⟩ := hb
            obtain ⟨x1, x2, x3⟩ := srcT_run hsrc hrep hs hxr
            obtain ⟨nv, n1, n2⟩ := x3 n (Nat.le_refl _)
            rw [← x2, List.take_length] at n1
            have hnl : nv.length = n * (z + 1) := by rw [rels_length n1, x2]
            have n2d : (Builtin.firstCells (z + 1) n vx).run P w.drew = .ok nv.toArray w.drew := by
              obtain ⟨_, _, y3⟩ := srcT_run (w := w.drew) hsrc (hrep.heap rfl) hs hxr
              obtain ⟨nv', m1, m2⟩ := y3 n (Nat.le_refl _)
              rw [m2]
              -- the same cells
              have : (Builtin.firstCells (z + 1) n vx).run P w.drew = .ok nv.toArray w.drew := by
                unfold srcT at hsrc
                split at hsrc
                · cases hsrc; simp only [rel] at hxr; subst hxr
                  simp only [Builtin.firstCells, Sem.run_pure] at n2 ⊢
                  cases n2; rfl
                · rename_i i off y len cap
                  split at hsrc
                  · rename_i hy; have hy := (beq_iff _ _).1 hy; subst hy
                    split at hsrc
                    · rename_i l hr
                      cases hsrc
                      simp only [rel] at hxr; obtain ⟨p, a, c, hp, rfl, hlc, ha, _⟩ := hxr
                      simp only [Builtin.firstCells] at n2 ⊢
                      by_cases hc : c = 0
                      · have : n = 0 := by omega
                        subst this
                        rw [Nat.zero_mul] at n2 ⊢; rw [load_none] at n2 ⊢; cases n2; rfl
                      · rw [ha hc] at n2 ⊢
                        obtain ⟨vs1, a1, a2, a3⟩ := rd_run hr hp hrep (fun o ho => hs i o ho)
                        rw [a3] at n2
                        unfold rd at hr
                        split at hr
                        · rename_i cs fz hg
                          obtain ⟨p', ob, hp', hb, ho⟩ := hrep.obj i _ (hs i _ hg) trivial
                          rw [hp] at hp'; cases hp'
                          obtain ⟨vs2, b1, b2, b3⟩ := rd_cells hb ho hr
                          have e1 := run_loadCells_list (P := P) w ⟨p.b, p.sh + off, none⟩ vs2 b3
                          have e2 := run_loadCells_list (P := P) w.drew ⟨p.b, p.sh + off, none⟩ vs2 b3
                          rw [b2] at e1 e2
                          rw [a3] at e1
                          have : vs1.toArray = vs2.toArray := by injection e1
                          have q : vs1.toArray = nv.toArray := by injection n2
                          rw [e2, ← this, q]
                        · cases hr
                    · cases hsrc
                  · cases hsrc
                · rename_i st
                  split at hsrc
                  · cases hsrc; simp only [rel] at hxr; subst hxr
                    simp only [Builtin.firstCells, Sem.run_pure] at n2 ⊢
                    have : ((st.extract 0 (bl st).length).data.map fun b => Value.int .u8 b.toNat) = nv.toArray := by injection n2
                    rw [this]
                  · cases hsrc
                · cases hsrc
              rw [this] at m2
              exact m2 ▸ rfl
            split at h
            · -- nothing there yet
              simp only [rel] at hsr; subst hsr
              split at h
              · cases h
                refine OpOk.pure hrep hl ⟨.slice none 0 0, ?_, by simp only [rel]⟩
                simp only [Sem.run_bind, append_tail ht hu1 hue hut hni hi x1 (.inl (Nat.le_refl 0)), appTail, Nat.le_refl, if_true, hsz, n2, Result.andThen_ok, Sem.run_pure]
              · rename_i hn0
                split at h
                · rename_i i S1 ha
                  cases h
                  have hn0 : n ≠ 0 := hn0
                  have hgt : ¬ (0 + n ≤ 0) := by omega
                  obtain ⟨newCap, C, g1, g2, g3, g4⟩ := grow_run (w := w) (ov := []) (nv := nv) (base := none) (bytes := info.bytes) hi hzero hzs hgt rfl n2d (by simp) hnl
                  have := grow_ok (n := n) (len := 0) (z := z + 1) (ws := nv) ha hrep hl hf g1 g2 (by rw [x2, Nat.zero_add]) n1 (fun j hj => by simpa using g3 j (by simpa using hj))
                    (run := (do pure (.value (← Builtin.append_ ts ty #[.slice none 0 0, vx])) : Sem Next).run P w) (e := e) ?_
                  · rw [Nat.zero_add] at this; exact this
                  · rw [Sem.run_bind, append_tail ht hu1 hue hut hni hi x1 (.inr ⟨by omega, hbytes⟩), hsz, g4]; rfl
                · cases h
            · rename_i i off y len cap
              split at h
              · cases h
              · rename_i hyl
                simp only [Bool.and_eq_true, beq_iff, ble_iff, smallLen] at hyl
                obtain ⟨hy, hlen⟩ := hyl
                subst hy
                simp only [rel] at hsr; obtain ⟨p, a, c, hp, rfl, hlc, ha, hcap, hblk⟩ := hsr
                have tail := append_tail (base := some a) (len := len) (c := c) (ty := ty) ht hu1 hue hut hni hi x1 (.inr ⟨by omega, hbytes⟩)
                rw [hsz] at tail
                split at h
                · -- nothing is appended
                  cases h
                  refine OpOk.pure hrep hl ⟨.slice (some a) len c, ?_, by simp only [rel]; exact ⟨p, a, c, hp, rfl, hlc, ha, hcap, hblk⟩⟩
                  have nv0 : nv = [] := List.eq_nil_of_length_eq_zero (by rw [hnl]; simp)
                  subst nv0
                  have hle : len + 0 ≤ c := by omega
                  simp only [Sem.run_bind, tail, appTail, hle, if_true, Sem.run_bind, n2, Result.andThen_ok, storeCells, Sem.run_pure]
                  rfl
                · rename_i hn0
                  have hn0 : n ≠ 0 := hn0
                  -- in place, in cells that are known
                  have stay : ∀ {S1 : TS} {cap' : Option Nat}, wr S i (off + len * (z + 1)) xs = some S1 → len + n ≤ c → capOk p off (z + 1) c cap' →
                      OpOk P K β w S ((do pure (.value (← Builtin.append_ ts ty #[.slice (some a) len c, vx])) : Sem Next).run P w) (.sl i off (z + 1) (len + n) cap') S1 := by
                    intro S1 cap' hw hle hc'
                    obtain ⟨w', K', q1, q2, q3, q4, q5, q6⟩ := wr_run hw hrep hs hl hp n1
                    have ha' := ha (by omega)
                    refine ⟨.value (.slice (some a) (len + n) c), w', β, K', ?_, ?_, q2, q3 _ _, q4, q5⟩
                    · rw [Sem.run_bind, tail]
                      simp only [appTail, hle, if_true, Sem.run_bind, n2, Result.andThen_ok]
                      rw [ha', add_none, Nat.add_assoc, q1]
                      simp only [Result.andThen_ok, Sem.run_pure]
                    · simp only [gives, rel]; exact ⟨p, a, c, hp, rfl, hle, ha, hc', hblk⟩
                  -- into a new block
                  have grown : ∀ {S0 S1 : TS} {K0 : Kn} {j : Nat} {old : List TV} {fz : Bool}, rd S i off (len * (z + 1)) = some old → allocT S0 (old ++ xs) fz = some (j, S1) → Rep P K0 β w → Low S0 → S0.next = S.next → ¬ (len + n ≤ c) → S1.next = S'.next →
                      OpOk P K0 β w S0 ((do pure (.value (← Builtin.append_ ts ty #[.slice (some a) len c, vx])) : Sem Next).run P w) (.sl j 0 (z + 1) (len + n) none) S1 := by
                    intro S0 S1 K0 j old fz hrd hal hrep0 hl0 hnx hgt hnx1
                    obtain ⟨ov, o1, o2, o3⟩ := rd_run hrd hp hrep (fun o ho => hs i o ho)
                    obtain ⟨ov', o1', o2', o3'⟩ := rd_run (w := w.drew) hrd hp (hrep.heap rfl) (fun o ho => hs i o ho)
                    have f1 : (Builtin.firstCells (z + 1) len (.slice (some a) len c)).run P w.drew = .ok ov'.toArray w.drew := cells_sl ha hlc (Nat.le_refl _) o3'
                    obtain ⟨newCap, C, g1, g2, g3, g4⟩ := grow_run (w := w) (ov := ov') (nv := nv) (base := some a) (bytes := info.bytes) hi hzero hzs hgt f1 n2d o2' hnl
                    exact grow_ok (n := n) (len := len) (z := z + 1) (ws := ov' ++ nv) hal hrep0 hl0 (by rw [hnx, hnx1]; exact hf) g1 g2 (by rw [List.length_append, x2, rd_len hrd, Nat.add_mul]) (rels_append o1' n1) g3
                      (by rw [Sem.run_bind, tail, g4]; rfl)
                  split at h
                  · rename_i cc
                    simp only [capOk] at hcap; subst hcap
                    split at h
                    · rename_i hle; have hle := (ble_iff _ _).1 hle
                      split at h
                      · rename_i S1 hw; cases h
                        exact stay hw hle (by simp only [capOk])
                      · cases h
                    · rename_i hle; have hle := (ble_false _ _).1 hle
                      split at h
                      · rename_i old hrd
                        split at h
                        · rename_i j S1 hal; cases h
                          exact grown hrd hal hrep hl rfl (by omega) rfl
                        · cases h
                      · cases h
                  · split at h
                    · rename_i cs fz hg
                      simp only [capOk] at hcap
                      have hk := hs i _ hg
                      obtain ⟨p', ob, hp', hb, ho⟩ := hrep.obj i _ hk trivial
                      rw [hp] at hp'; cases hp'
                      obtain ⟨C, et, f, rfl, hCs, hCl, hfz, hcell⟩ := ho
                      split at h
                      · rename_i hle; have hle := (ble_iff _ _).1 hle
                        split at h
                        · rename_i S1 hw; cases h
                          refine stay hw ?_ (by simp only [capOk]; exact hcap)
                          have : (len + n) * (z + 1) ≤ c * (z + 1) := by omega
                          exact Nat.le_of_mul_le_mul_right this (Nat.succ_pos z)
                        · cases h
                      · split at h
                        · rename_i old hold
                          have hrd : rd S i off (len * (z + 1)) = some old := by unfold rd; rw [hg]; exact hold
                          split at h
                          · rename_i j S1 hal; cases h
                            have hi' : i < S.next := hl.lt hg
                            obtain ⟨t1, t2⟩ := turn_put (K := K) (o := .dead) hl hg
                            by_cases hle : len + n ≤ c
                            · -- in its own block
                              have hal' := hal
                              unfold allocT at hal
                              split at hal
                              · rename_i hroom hok
                                cases hal
                                have hn' : β S.next = none := hf S.next (Nat.le_refl _) (Nat.lt_succ_self _)
                                obtain ⟨t3, t4⟩ := turn_new (K := upd K i .dead) (o := .cells (old ++ xs) fz) t2 hroom
                                have hxs : xs.length = n * (z + 1) := x2
                                have hmul : (len + n) * (z + 1) ≤ c * (z + 1) := Nat.mul_le_mul_right _ hle
                                have e1 : (len + n) * (z + 1) = len * (z + 1) + n * (z + 1) := Nat.add_mul _ _ _
                                have hok' : cellsOk xs = true := by
                                  have : ∀ (l m : List TV), cellsOk (l ++ m) = true → cellsOk m = true := by
                                    intro l; induction l with
                                    | nil => intro m h; exact h
                                    | cons a l ih =>
                                      intro m h
                                      simp only [List.cons_append, cellsOk] at h
                                      split at h
                                      · exact ih m h
                                      · cases h
                                  exact this _ _ hok
                                have hfit : p.sh + off + len * (z + 1) + nv.length ≤ C.size := by omega
                                have hrun := run_storeCells_cells (P := P) p.b (p.sh + off + len * (z + 1)) nv 0 w
                                  (fun j hj => by rw [Nat.add_zero, cell_of hb, Array.getElem?_eq_getElem (by omega)]; rfl)
                                  (fun j hj => by simp only [World.frozen?, hb, Nat.add_zero]; exact frz_free hfz (by omega))
                                  (rels_oneCell hok' n1)
                                rw [show p.sh + off + len * (z + 1) + 0 = p.sh + off + len * (z + 1) from rfl, setCells_setO nv _ hb] at hrun
                                obtain ⟨ho1, ho2⟩ := takeT_some hold
                                rw [dropT_eq, List.length_drop] at ho1
                                rw [dropT_eq] at ho2
                                have hol : old.length = len * (z + 1) := take_len hold
                                have hobj : objRel P β ⟨p.b, p.sh + off, p.sz⟩ (.cells (old ++ xs) fz) (.cells (layV C (p.sh + off + len * (z + 1)) nv) et f) := by
                                  refine ⟨_, et, f, rfl, by rw [layV_size]; exact hCs, by simp only [List.length_append, hol, hxs]; omega, hfz, fun j x hx => ?_⟩
                                  rw [layV_get nv _ C _ hfit]
                                  rw [List.getElem?_append] at hx
                                  by_cases cj : j < old.length
                                  · rw [if_pos cj] at hx
                                    rw [if_neg (by simp only; omega)]
                                    rw [ho2, List.getElem?_take, if_pos (by omega), List.getElem?_drop] at hx
                                    have := hcell _ x hx
                                    simpa [Nat.add_assoc] using this
                                  · rw [if_neg cj] at hx
                                    have hjx := (List.getElem?_eq_some_iff.1 hx).1
                                    rw [if_pos (by simp only; omega)]
                                    have := rels_get n1 _ x hx
                                    rw [show p.sh + off + j - (p.sh + off + len * (z + 1)) = j - old.length by omega]
                                    exact this
                                obtain ⟨g1, g2⟩ := rep_grow hrep hk trivial hp hn' off hobj trivial
                                refine ⟨.value (.slice (some a) (len + n) c), _, _, _, ?_, ?_, g1, g2, t1.trans t3, t4⟩
                                · rw [Sem.run_bind, tail]
                                  simp only [appTail, hle, if_true, Sem.run_bind, n2, Result.andThen_ok]
                                  rw [ha (by omega), add_none, show storeCells ⟨p.b, p.sh + off + len * (z + 1), none⟩ nv = storeCells ⟨p.b, p.sh + off + len * (z + 1), none⟩ nv 0 from rfl, hrun]
                                  simp only [Result.andThen_ok, Sem.run_pure]
                                · simp only [gives, rel]
                                  exact ⟨_, a, c, updB_same _ _ _, rfl, hle, fun hc => by rw [ha hc]; rfl, by simp only [capOk]; omega, hblk⟩
                              · cases hal
                            · obtain ⟨V, w', β', K', a1, a2, a3, a4, a5, a6⟩ := grown (K0 := upd K i .dead) hrd hal (rep_dead hrep i) t2 rfl hle rfl
                              exact ⟨V, w', β', K', a1, a2, a3, (ext_dead i S.next S.next).trans a4 (Nat.le_refl _) a5.next, t1.trans a5, a6⟩
                          · cases h
                        · cases h
                    · cases h
            · cases h
  · cases h
end
end Go.TX

/-
Built-in functions and conversions: what the executor says of them the model does.
-/
namespace Go.TX
section
variable {P : Program} {β : Be} {w : World} {K : Kn} {S : TS}

theorem wr_any {i off : Nat} {l : List TV} {S' : TS} {p : Pl} {vs : List Value} {a : Addr} (h : wr S i off l = some S') (hrep : Rep P K β w) (hs : Sup S K) (hl : Low S) (hp : β i = some p) (hv : rels β l vs)
    (ha : vs ≠ [] → a = ⟨p.b, p.sh + off, none⟩) :
    ∃ w' K', (storeCells a vs).run P w = .ok () w' ∧ Rep P K' β w' ∧ (∀ lo hi, Ext K β w K' β w' lo hi) ∧ Turn K S K' S' ∧ Low S' ∧ S'.next = S.next := by
  obtain ⟨w', K', h1, h2⟩ := wr_run h hrep hs hl hp hv
  refine ⟨w', K', ?_, h2⟩
  by_cases c : vs = []
  · subst c; exact h1
  · rw [ha c]; exact h1

theorem biClear_run {ts : Array TypeId} {xs : List TV} {r : TV} {S' : TS} {vs : Array Value} {ty : TypeId} (h : biClear P S ts.toList xs = some (r, S')) (hrep : Rep P K β w) (hs : Sup S K) (hl : Low S) (hr : rels β xs vs.toList) :
    OpOk P K β w S ((do pure (.value (← Builtin.clear_ ts ty vs)) : Sem Next).run P w) r S' := by
  unfold biClear at h
  split at h
  · rename_i t tr x xr ets
    rw [rels_cons] at hr; obtain ⟨v, vr, ev, hx, _⟩ := hr
    have t0 : ts[0]? = some t := by rw [← Array.getElem?_toList, ets]; rfl
    have v0 : vs[0]? = some v := by rw [← Array.getElem?_toList, ev]; rfl
    have done : ∀ {w' : World} {K' : Kn} {S1 : TS}, (Builtin.clear_ ts ty vs).run P w = .ok (.tuple #[]) w' → Rep P K' β w' → Ext K β w K' β w' S.next S1.next → Turn K S K' S1 → Low S1 →
        OpOk P K β w S ((do pure (.value (← Builtin.clear_ ts ty vs)) : Sem Next).run P w) (.tup []) S1 := by
      intro w' K' S1 h1 h2 h3 h4 h5
      refine ⟨.value (.tuple #[]), w', β, K', ?_, ?_, h2, h3, h4, h5⟩
      · simp only [Sem.run_bind, h1, Result.andThen_ok, Sem.run_pure]
      · simp only [gives, rel]; exact ⟨_, rfl, by rw [rels_nil]⟩
    split at h
    · cases h
      simp only [rel] at hx; subst hx
      refine done ?_ hrep (Ext.refl K β w _ _) (Turn.refl K S) hl
      simp only [Builtin.clear_, t0, v0, Sem.run_bind, run_und (by assumption), Result.andThen_ok, Sem.run_pure]
    · rename_i e i off z len cap hu
      split at h
      · cases h
      · rename_i zero hz
        split at h
        · cases h
        · rename_i zc hzc
          simp only [rel] at hx; obtain ⟨p, a, c, hp, rfl, hlc, ha, _⟩ := hx
          split at h
          · cases h
            refine done ?_ hrep (Ext.refl K β w _ _) (Turn.refl K S) hl
            simp only [Builtin.clear_, t0, v0, Sem.run_bind, run_und hu, Result.andThen_ok, Sem.run_pure]
          · rename_i hlen0
            have hlen0 : len ≠ 0 := hlen0
            split at h
            · cases h
            · rename_i hzl; have hzl := (beq_iff _ _).1 hzl
              split at h
              · rename_i S1 hw; cases h
                obtain ⟨zv, hzv, hzr⟩ := rel_cells_zero (β := β) (w := w) hz hzc
                have hrp := repT_rel hzr len (len * zv.cells.size) (by rw [← rels_length hzr, Array.length_toList])
                obtain ⟨w', K', g1, g2, g3, g4, g5, _⟩ := wr_any (a := a) hw hrep hs hl hp hrp (fun _ => ha (by omega))
                refine done ?_ g2 (g3 _ _) g4 g5
                cases len with
                | zero => exact absurd rfl hlen0
                | succ len =>
                  simp only [Builtin.clear_, t0, v0, Sem.run_bind, run_und hu, Result.andThen_ok, hzv, Builtin.zeroCells, g1, Sem.run_pure]
              · cases h
    · cases h
  · cases h

theorem srcT_zero {z : Nat} {x : TV} {n : Nat} {xs : List TV} {v : Value} (h : srcT S z x = some (n, xs)) (hrep : Rep P K β w) (hs : Sup S K) (hx : rel β x v) : (Builtin.firstCells z 0 v).run P w = .ok #[] w := by
  obtain ⟨_, _, h3⟩ := srcT_run h hrep hs hx
  obtain ⟨vs, h4, h5⟩ := h3 0 (Nat.zero_le _)
  have : vs = [] := List.eq_nil_of_length_eq_zero (by rw [rels_length h4]; simp)
  rw [h5, this]

theorem biCopy_run {ts : Array TypeId} {xs : List TV} {r : TV} {S' : TS} {vs : Array Value} {ty : TypeId} (h : biCopy P S ts.toList xs = some (r, S')) (hrep : Rep P K β w) (hs : Sup S K) (hl : Low S) (hr : rels β xs vs.toList) :
    OpOk P K β w S ((do pure (.value (← Builtin.copy_ ts ty vs)) : Sem Next).run P w) r S' := by
  unfold biCopy at h
  split at h
  · rename_i t tr d s xr ets
    rw [rels_cons] at hr; obtain ⟨v, vr, ev, hd, hr⟩ := hr
    rw [rels_cons] at hr; obtain ⟨v', vr', ev', hsx, _⟩ := hr
    subst ev'
    have t0 : ts[0]? = some t := by rw [← Array.getElem?_toList, ets]; rfl
    have v0 : vs[0]? = some v := by rw [← Array.getElem?_toList, ev]; rfl
    have v1 : vs[1]? = some v' := by rw [← Array.getElem?_toList, ev]; rfl
    split at h
    · rename_i e hu
      split at h
      · cases h
      · rename_i z hz
        split at h
        · rename_i q hq
          cases h
          simp only [rel] at hd; subst hd
          obtain ⟨n, l⟩ := q
          obtain ⟨l1, _, _⟩ := srcT_run hq hrep hs hsx
          have f0 := srcT_zero hq hrep hs hsx
          refine OpOk.pure hrep hl ⟨.int .i64 0, ?_, by simp only [rel]; rfl⟩
          simp only [Builtin.copy_, t0, v0, v1, Sem.run_bind, run_und hu, Result.andThen_ok, l1, run_sizeOf hz, show Nat.min n 0 = 0 by simp, f0, Sem.run_pure]
          rfl
        · rename_i i off y len cap n l hq
          split at h
          · cases h
          · rename_i hy; have hy := (beq_iff _ _).1 hy; subst hy
            split at h
            · rename_i l' htk
              split at h
              · rename_i S1 hw; cases h
                simp only [rel] at hd; obtain ⟨p, a, c, hp, rfl, hlc, ha, _⟩ := hd
                obtain ⟨l1, l2, l3⟩ := srcT_run hq hrep hs hsx
                have hmin : minN n len = Nat.min n len := minN_eq n len
                rw [hmin] at htk ⊢
                obtain ⟨ws, w1, w2⟩ := l3 (Nat.min n len) (Nat.min_le_left _ _)
                obtain ⟨k1, k2⟩ := takeT_some htk
                rw [← k2] at w1
                have hlw := rels_length w1
                obtain ⟨w', K', g1, g2, g3, g4, g5, _⟩ := wr_any (a := a) hw hrep hs hl hp w1 (fun hne => ha (fun hc => hne (List.eq_nil_of_length_eq_zero (by
                  have : Nat.min n len = 0 := Nat.le_zero.1 (Nat.le_trans (Nat.min_le_right n len) (by omega))
                  rw [hlw, k2, this]; simp))))
                refine ⟨.value (.int .i64 (Nat.min n len)), w', β, K', ?_, ?_, g2, g3 _ _, g4, g5⟩
                · simp only [Builtin.copy_, t0, v0, v1, Sem.run_bind, run_und hu, Result.andThen_ok, l1, run_sizeOf hz, w2, g1, Sem.run_pure]
                  rfl
                · simp only [gives, rel]; rfl
              · cases h
            · cases h
        · cases h
    · cases h
  · cases h

theorem biLen_run {ts : Array TypeId} {xs : List TV} {r : TV} {S' : TS} {vs : Array Value} {ty : TypeId} (h : biLen P S ts.toList xs = some (r, S')) (hrep : Rep P K β w) (hs : ∀ i, (∃ l, xs = .map i :: l) → ∀ o, S.get i = some o → K i = some o) (hl : Low S) (hr : rels β xs vs.toList) :
    OpOk P K β w S ((do pure (.value (← Builtin.len_ ts ty vs)) : Sem Next).run P w) r S' := by
  unfold biLen at h
  split at h
  · rename_i t tr x xr ets
    rw [rels_cons] at hr; obtain ⟨v, vr, ev, hx, _⟩ := hr
    have t0 : ts[0]? = some t := by rw [← Array.getElem?_toList, ets]; rfl
    have v0 : vs[0]? = some v := by rw [← Array.getElem?_toList, ev]; rfl
    have fin : ∀ (n : Nat), (Builtin.len_ ts ty vs).run P w = .ok (goInt n) w → OpOk P K β w S ((do pure (.value (← Builtin.len_ ts ty vs)) : Sem Next).run P w) (.int .i64 (.ofNat n)) S := fun n hn =>
      OpOk.pure hrep hl ⟨goInt n, by simp only [Sem.run_bind, hn, Result.andThen_ok, Sem.run_pure], by simp only [rel]; rfl⟩
    split at h
    · rename_i s hu; cases h
      simp only [rel] at hx; subst hx
      refine fin _ ?_
      simp only [Builtin.len_, t0, v0, Sem.run_bind, run_und hu, Result.andThen_ok, Sem.run_pure, size_bl]
    · rename_i hu; cases h
      simp only [rel] at hx; obtain ⟨p, a, c, _, rfl, _⟩ := hx
      refine fin _ ?_
      simp only [Builtin.len_, t0, v0, Sem.run_bind, run_und hu, Result.andThen_ok, Sem.run_pure]
    · rename_i hu; cases h
      simp only [rel] at hx; subst hx
      refine fin 0 ?_
      simp only [Builtin.len_, t0, v0, Sem.run_bind, run_und hu, Result.andThen_ok, Sem.run_pure]
    · rename_i hu; cases h
      simp only [rel] at hx; subst hx
      refine fin 0 ?_
      simp only [Builtin.len_, t0, v0, Sem.run_bind, run_und hu, Result.andThen_ok, Sem.run_pure]; rfl
    · rename_i i hu
      split at h
      · rename_i kt es clock hg; cases h
        simp only [rel] at hx; obtain ⟨p, hp, rfl⟩ := hx
        obtain ⟨E, hE, hmr⟩ := map_obj hrep (hs i ⟨xr, rfl⟩ _ hg) hp
        refine fin _ ?_
        simp only [Builtin.len_, t0, v0, Sem.run_bind, run_und hu, Result.andThen_ok, run_getMap hE, Sem.run_pure, hmr.size]
      · cases h
    · rename_i n hu; cases h
      refine fin _ ?_
      simp only [Builtin.len_, t0, v0, Sem.run_bind, run_und hu, Result.andThen_ok, Sem.run_pure]
    · cases h
  · cases h

theorem biMin_run {ts : List TypeId} {xs : List TV} {r : TV} {S' : TS} {vs : Array Value} {ty : TypeId} {ts' : Array TypeId} (h : biMin P S ts xs = some (r, S')) (hrep : Rep P K β w) (hl : Low S) (hr : rels β xs vs.toList) :
    OpOk P K β w S ((do pure (.value (← Builtin.min_ ts' ty vs)) : Sem Next).run P w) r S' := by
  unfold biMin at h
  split at h
  · rename_i x l
    split at h
    · rename_i v hv; cases h
      rw [rels_cons] at hr; obtain ⟨u, us, eu, hu, hus⟩ := hr
      obtain ⟨V, hV, hrV⟩ := minMax_run (P := P) (w := w) false hv hu hus
      refine OpOk.pure hrep hl ⟨V, ?_, hrV⟩
      simp only [Bool.false_eq_true, if_false] at hV
      simp only [Builtin.min_, eu, Sem.run_bind, hV, Result.andThen_ok, Sem.run_pure]
    · cases h
  · cases h
theorem biMax_run {ts : List TypeId} {xs : List TV} {r : TV} {S' : TS} {vs : Array Value} {ty : TypeId} {ts' : Array TypeId} (h : biMax P S ts xs = some (r, S')) (hrep : Rep P K β w) (hl : Low S) (hr : rels β xs vs.toList) :
    OpOk P K β w S ((do pure (.value (← Builtin.max_ ts' ty vs)) : Sem Next).run P w) r S' := by
  unfold biMax at h
  split at h
  · rename_i x l
    split at h
    · rename_i v hv; cases h
      rw [rels_cons] at hr; obtain ⟨u, us, eu, hu, hus⟩ := hr
      obtain ⟨V, hV, hrV⟩ := minMax_run (P := P) (w := w) true hv hu hus
      refine OpOk.pure hrep hl ⟨V, ?_, hrV⟩
      simp only [if_true] at hV
      simp only [Builtin.max_, eu, Sem.run_bind, hV, Result.andThen_ok, Sem.run_pure]
    · cases h
  · cases h

theorem two_of {xs : List TV} {s x : TV} {vs : Array Value} (e : xs = [s, x]) (hr : rels β xs vs.toList) : ∃ a b, vs = #[a, b] ∧ rel β s a ∧ rel β x b := by
  subst e
  rw [rels_cons] at hr; obtain ⟨a, r1, e1, h1, hr⟩ := hr
  rw [rels_cons] at hr; obtain ⟨b, r2, e2, h2, hr⟩ := hr
  rw [rels_nil] at hr
  exact ⟨a, b, by apply Array.ext'; rw [e1, e2, hr], h1, h2⟩

/-- Which operand a built-in looks into. -/
def Sees (K : Kn) (S : TS) (b : Builtin) (xs : List TV) : Prop := match b with
  | .min => True
  | .max => True
  | .len => ∀ i, (∃ l, xs = .map i :: l) → ∀ o, S.get i = some o → K i = some o
  | _ => Sup S K

theorem bif_run {b : Builtin} {f : Bif} {ts : Array TypeId} {xs : List TV} {r : TV} {S' : TS} {vs : Array Value} {ty : TypeId} {cs : Array Bool} (hb : bifs b = some f) (h : f P S ts.toList xs = some (r, S')) (hrep : Rep P K β w)
    (hs : Sees K S b xs) (hl : Low S) (hf : Free β S.next S'.next) (hr : rels β xs vs.toList) : OpOk P K β w S ((builtin b ts ty cs vs).run P w) r S' := by
  cases b <;> simp only [bifs] at hb <;> first | (cases hb; done) | skip
  case len => cases hb; exact biLen_run h hrep hs hl hr
  case min => cases hb; exact biMin_run h hrep hl hr
  case max => cases hb; exact biMax_run h hrep hl hr
  case clear => cases hb; exact biClear_run h hrep hs hl hr
  case copy => cases hb; exact biCopy_run h hrep hs hl hr
  case append =>
    cases hb
    unfold biAppend at h
    split at h
    · rename_i t u s x ets
      obtain ⟨a, b, rfl, h1, h2⟩ := two_of rfl hr
      have t0 : ts[0]? = some t := by rw [← Array.getElem?_toList, ets]; rfl
      have t1 : ts[1]? = some u := by rw [← Array.getElem?_toList, ets]; rfl
      exact appendT_run t0 t1 h hrep hs hl hf h1 h2
    · cases h
  case delete =>
    cases hb
    unfold biDelete at h
    split at h
    · rename_i t tr m k ets
      split at h
      · rename_i S1 hd; cases h
        obtain ⟨a, b, rfl, h1, h2⟩ := two_of rfl hr
        have t0 : ts[0]? = some t := by rw [← Array.getElem?_toList, ets]; rfl
        exact mapDel_run t0 hd hrep hs hl h1 h2
      · cases h
    · cases h

/-! ### Conversions -/
theorem freeze_run {a : Addr} {C : Array Value} {e : TypeId} {f : Nat × Nat} (h : w.heap[a.block]? = some (.cells C e f)) :
    (markStringish a).run P w = .ok () (setO w a.block (.cells C e (if f.1 == f.2 then (C.size, C.size + 1) else (min f.1 C.size, max f.2 (C.size + 1))))) := by
  have hs : w.shape? a.block = some (e, C.size) := by simp [World.shape?, h]
  have hlt := lt_of_get h
  have : w.freeze { block := a.block, off := C.size } 1 = setO w a.block (.cells C e (if f.1 == f.2 then (C.size, C.size + 1) else (min f.1 C.size, max f.2 (C.size + 1)))) := by
    unfold World.freeze setO
    rw [if_neg (by decide)]
    congr 1
    apply Array.ext_getElem?; intro j
    rw [Array.getElem?_modify, Array.getElem?_setIfInBounds]
    split
    · rename_i e'; simp only at e'; subst e'
      rw [h, Option.map_some]
    · rfl
  simp only [markStringish, shape, freeze, Sem.run_bind, Sem.run, hs, Result.andThen, this]

theorem frz_frozen {fz : Bool} {f : Nat × Nat} {sz : Nat} (h : frz fz f sz) : frz true (if f.1 == f.2 then (sz, sz + 1) else (min f.1 sz, max f.2 (sz + 1))) sz := by
  split
  · exact .inr ⟨rfl, Nat.le_refl _⟩
  · rename_i c
    rcases h with h | ⟨_, h⟩
    · exact absurd (by simp [h]) c
    · exact .inr ⟨rfl, by simp only; omega⟩

theorem bytesOf_some : ∀ {l : List TV} {bs : List UInt8}, bytesOf l = some bs → ∃ ns : List Nat, l = ns.map (fun n => .int .u8 (.ofNat n)) ∧ bs = ns.map UInt8.ofNat
  | [], bs, h => by simp only [bytesOf] at h; cases h; exact ⟨[], rfl, rfl⟩
  | x :: l, bs, h => by
    unfold bytesOf at h
    split at h
    · rename_i h0; cases h0
    · rename_i n l' h0
      cases h0
      split at h
      · rename_i r hr; cases h
        obtain ⟨ns, h1, h2⟩ := bytesOf_some hr
        exact ⟨n :: ns, by rw [h1, List.map_cons], by rw [h2, List.map_cons]⟩
      · cases h
    · cases h
theorem fold_ofNat : ∀ (ns : List Nat) (r : ByteArray), (ns.map fun n : Nat => (n : Int)).foldl (fun r n => r.push (UInt8.ofNat n.toNat)) r = ⟨r.data ++ (ns.map UInt8.ofNat).toArray⟩
  | [], r => by cases r; simp
  | b :: ns, r => by
    simp only [List.map_cons, List.foldl_cons]
    rw [fold_ofNat ns]
    simp [ByteArray.push]

theorem rels_ints {ns : List Nat} {vs : List Value} (h : rels β (ns.map fun n => TV.int .u8 (.ofNat n)) vs) : vs = (ns.map fun n : Nat => (n : Int)).map (Value.int .u8) := by
  apply List.ext_getElem?
  intro j
  have hl := rels_length h
  rw [List.length_map] at hl
  by_cases c : j < ns.length
  · obtain ⟨v, hv, hr⟩ := rels_get h j (.int .u8 (.ofNat ns[j])) (by simp [c])
    simp only [rel] at hr
    rw [hv, hr]; simp [c]
  · rw [List.getElem?_eq_none (by omega), List.getElem?_eq_none (by simp; omega)]

theorem convT_run {s d : TypeId} {x r : TV} {S' : TS} {v : Value} (h : convT P S s d x = some (r, S')) (hrep : Rep P K β w) (hs : Sup S K) (hl : Low S) (hf : Free β S.next S'.next) (hx : rel β x v) :
    OpOk P K β w S ((do pure (.value (← convert s d v)) : Sem Next).run P w) r S' := by
  have pure' : ∀ {V : Value} {r : TV}, (convert s d v).run P w = .ok V w → rel β r V → OpOk P K β w S ((do pure (.value (← convert s d v)) : Sem Next).run P w) r S := fun h1 h2 =>
    OpOk.pure hrep hl ⟨_, by simp only [Sem.run_bind, h1, Result.andThen_ok, Sem.run_pure], h2⟩
  unfold convT at h
  split at h
  · rename_i k0 n0
    split at h
    · rename_i ks kd h1 h2; cases h
      simp only [rel] at hx; subst hx
      refine pure' (V := .int kd (IntKind.wrap kd n0)) ?_ (by simp only [rel, fwrap_eq])
      simp only [convert, Sem.run_bind, run_und h1, run_und h2, Result.andThen_ok, Conv.intToInt, Sem.run_pure]
    · cases h
  · rename_i b
    simp only [rel] at hx; subst hx
    split at h
    · rename_i h1 h2; cases h
      refine pure' (V := .string b) ?_ (by simp only [rel])
      simp only [convert, Sem.run_bind, run_und h1, run_und h2, Result.andThen_ok, Sem.run_pure]
    · rename_i e h1 h2
      split at h
      · rename_i h3
        split at h
        · rename_i i S1 ha; cases h
          -- a new block, which shares its bytes
          have hge := cut_ge b.size 0 e (w.tape w.drawn (.appendCap b.size 0 e))
          generalize hcap : (Question.appendCap b.size 0 e).cut (w.tape w.drawn (.appendCap b.size 0 e)) = cap at hge
          have hch : (choose (.appendCap b.size 0 e)).run P w = .ok cap w.drew := by
            rw [run_choose]; simp only [Question.forced, Bool.false_eq_true, if_false, hcap]; rfl
          let C : Array Value := (b.data.map fun c => Value.int .u8 c.toNat) ++ Array.replicate (cap - b.size) (.int .u8 0)
          have hbs : b.data.size = b.size := rfl
          have hCs : C.size = cap := by simp only [C, Array.size_append, Array.size_map, Array.size_replicate, hbs]; omega
          obtain ⟨rfl, r1, r2, t1, t2, hn⟩ := alloc_new (w := w.drew) (e := e) (f := (cap, cap + 1)) (C := C) ha (hrep.heap rfl) hl hf (.inr ⟨rfl, by rw [hCs]; exact Nat.le_refl _⟩) (by rw [List.length_map, ← size_bl, hCs]; exact hge)
            (fun j y hy => by
              rw [List.getElem?_map] at hy
              cases hb : (bl b)[j]? with
              | none => rw [hb] at hy; simp at hy
              | some c =>
                rw [hb] at hy; simp at hy; subst hy
                have hj : j < b.data.size := by have := (List.getElem?_eq_some_iff.1 hb).1; simpa [bl] using this
                have hb' : b.data[j]? = some c := by rw [← Array.getElem?_toList]; exact hb
                refine ⟨.int .u8 c.toNat, ?_, by simp only [rel]⟩
                simp only [C]
                rw [Array.getElem?_append_left (by simpa using hj), Array.getElem?_map, hb']; rfl)
          refine ⟨.value (.slice (some ⟨w.heap.size, 0, none⟩) b.size cap), _, _, _, ?_, ?_, r1, { r2 with }, t1, t2⟩
          · have hfr := freeze_run (P := P) (w := push w.drew (.cells C e)) (a := ⟨w.heap.size, 0, none⟩) (C := C) (e := e) (f := (0, 0)) (push_new w.drew _)
            have hset : setO (push w.drew (.cells C e)) w.heap.size (.cells C e (if ((0, 0) : Nat × Nat).1 == ((0, 0) : Nat × Nat).2 then (C.size, C.size + 1) else (min ((0, 0) : Nat × Nat).1 C.size, max ((0, 0) : Nat × Nat).2 (C.size + 1)))) = push w.drew (.cells C e (cap, cap + 1)) := by
              simp only [beq_self_eq_true, if_true, hCs]
              unfold setO push
              congr 1
              apply Array.ext_getElem?; intro j
              rw [Array.getElem?_setIfInBounds, Array.getElem?_push, Array.getElem?_push]
              have : w.drew.heap = w.heap := rfl
              simp only [this, Array.size_push]
              by_cases c : w.heap.size = j
              · subst c; simp
              · rw [if_neg c, if_neg (fun x => c x.symm), if_neg (fun x => c x.symm)]
            rw [hset] at hfr
            simp only [convert, Conv.stringToBytes, Sem.run_bind, run_und h1, run_und h2, run_und h3, Result.andThen_ok, hch, run_newRow', Sem.run_pure]
            rw [show (w.drew.heap.size) = w.heap.size from rfl]
            simp only [C] at hfr
            rw [hfr]; rfl
          · simp only [gives, rel]
            exact ⟨⟨w.heap.size, 0, C.size⟩, ⟨w.heap.size, 0, none⟩, cap, updB_same _ _ _, by rw [size_bl], by rw [← size_bl]; exact hge, fun _ => rfl, by simp only [capOk, hCs]; omega, rfl⟩
        · cases h
      · cases h
    · cases h
  · rename_i i off z len cap
    simp only [rel] at hx; obtain ⟨p, a, c, hp, rfl, hlc, ha, hcap, hblk⟩ := hx
    split at h
    · rename_i e h1 h2
      split at h
      · rename_i l h3 hrd
        split at h
        · rename_i bs hbs; cases h
          obtain ⟨ns, n1, n2⟩ := bytesOf_some hbs
          obtain ⟨vs, v1, v2, v3⟩ := rd_run hrd hp hrep (fun o ho => hs i o ho)
          subst n1; subst n2
          have hvs := rels_ints v1
          have hld : (loadCells a len).run P w = .ok ((ns.map fun n : Nat => (n : Int)).map (Value.int .u8)).toArray w := by
            rw [← hvs]
            have := cells_sl (z := 1) ha hlc (Nat.le_refl len) (vs := vs) (by rw [Nat.mul_one]; exact v3)
            rw [Nat.mul_one] at this; exact this
          have hb := run_bytesToString (P := P) w a len c (ns.map fun n : Nat => (n : Int)) hld
          refine pure' (V := .string (lb (ns.map UInt8.ofNat))) ?_ (by simp only [rel])
          simp only [convert, Sem.run_bind, run_und h1, run_und h2, run_und h3, Result.andThen_ok, hb]
          rw [fold_ofNat]
          congr 2
          simp [lb, ByteArray.empty, ByteArray.emptyWithCapacity]
          rfl
        · cases h
      · cases h
    · rename_i e0 e h1 h2
      split at h
      · rename_i cs fz hsd h3 hg; cases h
        have hsd := (beq_iff _ _).1 hsd; subst hsd
        rw [h1] at h2; cases h2
        have hk := hs i _ hg
        obtain ⟨p', ob, hp', hb, ho⟩ := hrep.obj i _ hk trivial
        rw [hp] at hp'; cases hp'
        obtain ⟨C, et, f, rfl, hCs, hCl, hfz, hcell⟩ := ho
        obtain ⟨r1, r2⟩ := rep_put_plain (o' := .cells cs true) (ob' := .cells C et (if f.1 == f.2 then (C.size, C.size + 1) else (min f.1 C.size, max f.2 (C.size + 1)))) hrep hk trivial hp
          ⟨C, et, _, rfl, hCs, hCl, by rw [hCs]; exact frz_frozen hfz, hcell⟩ trivial
        obtain ⟨t1, t2⟩ := turn_put (K := K) (o := .cells cs true) hl hg
        refine ⟨.value (.slice (some a) len c), _, β, _, ?_, ?_, r1, r2 _ _, t1, t2⟩
        · have hfr := freeze_run (P := P) (w := w) (a := a) (C := C) (e := et) (f := f) (by rw [hblk]; exact hb)
          rw [hblk] at hfr
          simp only [convert, Sem.run_bind, run_und h1, run_und h3, Result.andThen_ok, beq_self_eq_true, hfr, Sem.run_pure]
        · simp only [gives, rel]; exact ⟨p, a, c, hp, rfl, hlc, ha, hcap, hblk⟩
      · cases h
    · cases h
  · simp only [rel] at hx; subst hx
    split at h
    · rename_i e h1 h2
      split at h
      · rename_i h3; cases h
        refine pure' (V := .string .empty) ?_ (by simp only [rel]; rfl)
        simp only [convert, Sem.run_bind, run_und h1, run_und h2, run_und h3, Result.andThen_ok, Conv.bytesToString, Sem.run_pure]
      · cases h
    · cases h
  · cases h
end
end Go.TX

/-
One operation that calls no function: what the executor says of it the model does.
-/
namespace Go.TX
section
variable {P : Program} {β : Be} {w : World} {K : Kn} {S : TS}

/-- What an operation looks at is as the executor knows it. -/
def Looks (S : TS) (K : Kn) : Foot → Prop
  | .none => True
  | .one i => ∀ o, S.get i = some o → K i = some o
  | .wide => Sup S K
theorem Sup.looks (h : Sup S K) (f : Foot) : Looks S K f := by
  cases f with
  | none => trivial
  | one i => exact fun o e => h i o e
  | wide => exact h

theorem val_some {v : Option TV} {S : TS} {l : List (TV × TS)} (h : val v S = some l) : ∃ r, v = some r ∧ l = [(r, S)] := by
  cases v with
  | none => simp [val] at h
  | some r => simp only [val, Option.some.injEq] at h; exact ⟨r, rfl, h.symm⟩
theorem did_some {v : Option TS} {l : List (TV × TS)} (h : did v = some l) : ∃ S', v = some S' ∧ l = [(.tup [], S')] := by
  cases v with
  | none => simp [did] at h
  | some r => simp only [did, Option.some.injEq] at h; exact ⟨r, rfl, h.symm⟩
theorem res_some {v : Option (TV × TS)} {l : List (TV × TS)} (h : res v = some l) : ∃ r S', v = some (r, S') ∧ l = [(r, S')] := by
  cases v with
  | none => simp [res] at h
  | some r => simp only [res, Option.some.injEq] at h; exact ⟨r.1, r.2, rfl, h.symm⟩
theorem OpsOk.one {run : Result Next} {r : TV} {S' : TS} (h : OpOk P K β w S run r S') : OpsOk P K β w S run [(r, S')] := ⟨_, List.mem_singleton.2 rfl, h⟩

theorem nilT_run {x r : TV} {v : Value} (h : nilT x = some r) (hx : rel β x v) : r = x ∧ ((∃ a, v = .pointer (some a)) ∨ (∃ f A B, v = .func (.func f) A B) ∨ (∃ l, v = .func (.yield l) #[] #[]) ∨ ∃ t u, v = .iface t u) := by
  unfold nilT at h
  split at h <;> cases h
  · simp only [rel] at hx; obtain ⟨p, _, rfl⟩ := hx; exact ⟨rfl, .inl ⟨_, rfl⟩⟩
  · simp only [rel] at hx; obtain ⟨A, B, rfl, _⟩ := hx; exact ⟨rfl, .inr (.inl ⟨_, _, _, rfl⟩)⟩
  · simp only [rel] at hx; obtain ⟨p, _, rfl⟩ := hx; exact ⟨rfl, .inr (.inr (.inl ⟨_, rfl⟩))⟩
  · simp only [rel] at hx; obtain ⟨u, rfl, _⟩ := hx; exact ⟨rfl, .inr (.inr (.inr ⟨_, _, rfl⟩))⟩

theorem op_run {E : Env} {ex : Ex} {tm : Tm} {a : Operand → Value} {o : Oper} {l : List (TV × TS)} (hP : E.P = P) (ha : ∀ x, rel β (ev tm x) (a x)) (h : runOp E ex S tm o = some l) (hc : isCall o.op = false)
    (hrep : Rep P K β w) (hl : Low S) (hs : Looks S K (footOf tm o.op)) (hf : ∀ q ∈ l, Free β S.next q.2.next) : OpsOk P K β w S ((execOp a o).run P w) l := by
  subst hP
  have hv : ∀ {r : TV} {s : Sem Value}, (∃ V, s.run E.P w = .ok V w ∧ rel β r V) → OpsOk E.P K β w S ((do pure (.value (← s)) : Sem Next).run E.P w) [(r, S)] := fun {r s} ⟨V, h1, h2⟩ =>
    OpsOk.one (OpOk.pure hrep hl ⟨V, by simp only [Sem.run_bind, h1, Result.andThen_ok, Sem.run_pure], h2⟩)
  have hargs : ∀ (xs : Array Operand), rels β (evs tm xs.toList) (xs.map a).toList := fun xs => by
    rw [Array.toList_map]; exact evs_rel (a := a) (fun x _ => ha x)
  unfold runOp at h
  cases ho : o.op <;> rw [ho] at h hs <;> simp only [opFn] at h <;> simp only [execOp, ho] <;> simp only [ho, isCall] at hc <;> first
    | (simp [xNone] at h; done)
    | skip
  case move x =>
    simp only [xMove, Option.some.injEq] at h; subst h
    exact OpsOk.one (OpOk.pure hrep hl ⟨_, rfl, ha x⟩)
  case assign x =>
    simp only [xMove, Option.some.injEq] at h; subst h
    exact OpsOk.one (OpOk.pure hrep hl ⟨_, rfl, ha x⟩)
  case pick c x y =>
    obtain ⟨r, h1, rfl⟩ := val_some h
    exact OpsOk.one (OpOk.pure hrep hl (pickT_run h1 (ha c) (ha x) (ha y)))
  case alloc t =>
    obtain ⟨r, S', h1, rfl⟩ := res_some h
    exact OpsOk.one (allocZ_run h1 hrep hl (hf _ (List.mem_singleton.2 rfl)))
  case box t x =>
    obtain ⟨r, S', h1, rfl⟩ := res_some h
    exact OpsOk.one (by simpa [Instr.box] using boxT_run (t := t) h1 hrep hl (hf _ (List.mem_singleton.2 rfl)) (ha x))
  case build t ps =>
    obtain ⟨r, h1, rfl⟩ := val_some h
    exact hv (bBuild_run h1 ha)
  case buildSlice t len ps =>
    obtain ⟨r, S', h1, rfl⟩ := res_some h
    exact OpsOk.one (buildSlice_run h1 ha hrep hl (hf _ (List.mem_singleton.2 rfl)))
  case load t x =>
    obtain ⟨r, h1, rfl⟩ := val_some h
    refine hv (loadT_run h1 hrep (ha x) (fun i off e => ?_))
    simp only [footOf, e] at hs; exact hs
  case store t x y =>
    obtain ⟨S', h1, rfl⟩ := did_some h
    exact OpsOk.one (storeT_run h1 hrep hs hl (ha x) (ha y))
  case nilCheck x =>
    obtain ⟨r, h1, rfl⟩ := val_some h
    obtain ⟨rfl, h2⟩ := nilT_run h1 (ha x)
    refine OpsOk.one (OpOk.pure hrep hl ⟨a x, ?_, ha x⟩)
    rcases h2 with ⟨_, e⟩ | ⟨_, _, _, e⟩ | ⟨_, e⟩ | ⟨_, _, e⟩ <;> rw [e] <;> rfl
  case binOp op t x y b =>
    obtain ⟨r, h1, rfl⟩ := val_some h
    refine hv (bOp_run h1 (ha x) (ha y) hrep (fun hc => ?_))
    rcases hc with ⟨i, x', j, y', e1, e2⟩ | ⟨l, e1⟩
    · simp only [footOf, e1, e2] at hs; exact hs
    · simp only [footOf, e1] at hs; exact hs
  case unOp op t x =>
    obtain ⟨r, h1, rfl⟩ := val_some h
    exact hv ⟨_, uOp_run h1 (ha x)⟩
  case convert s d x =>
    obtain ⟨r, S', h1, rfl⟩ := res_some h
    exact OpsOk.one (convT_run h1 hrep hs hl (hf _ (List.mem_singleton.2 rfl)) (ha x))
  case makeInterface t x =>
    obtain ⟨r, h1, rfl⟩ := val_some h
    exact hv (mkIface_run h1 (ha x))
  case makeFunc fn xs ys =>
    simp only [xFn] at h
    split at h
    · simp only [Option.some.injEq] at h; subst h
      refine hv ⟨_, rfl, ?_⟩
      simp only [rel]; exact ⟨_, _, rfl, hargs xs, hargs ys⟩
    · cases h
  case makeMap t r =>
    obtain ⟨r', S', h1, rfl⟩ := res_some h
    exact OpsOk.one (makeMap_run h1 (optEv_rel ha r) hrep hl (hf _ (List.mem_singleton.2 rfl)))
  case makeSlice t x y =>
    obtain ⟨r, S', h1, rfl⟩ := res_some h
    exact OpsOk.one (makeSlice_run h1 (ha x) (ha y) hrep hl (hf _ (List.mem_singleton.2 rfl)))
  case slice t x lo hi mx =>
    obtain ⟨r, h1, rfl⟩ := val_some h
    refine hv (bSlice_run h1 (ha x) (optEv_rel ha lo) (optEv_rel ha hi) (optEv_rel ha mx) hrep (fun i off z len cap e => ?_))
    simp only [footOf, e] at hs; exact hs
  case fieldAddr s x f =>
    obtain ⟨r, h1, rfl⟩ := val_some h
    exact hv (fieldP_run h1 (ha x))
  case field t x f =>
    obtain ⟨r, h1, rfl⟩ := val_some h
    exact hv (bField_run h1 (ha x))
  case indexAddr t x i =>
    obtain ⟨r, h1, rfl⟩ := val_some h
    exact hv (bIndexAddr_run h1 (ha x) (ha i))
  case index t x i =>
    obtain ⟨r, h1, rfl⟩ := val_some h
    exact hv (bIndex_run h1 (ha x) (ha i))
  case lookup t m k ok =>
    obtain ⟨r, h1, rfl⟩ := val_some h
    exact hv (lookupT_run h1 hrep hs (ha m) (ha k))
  case mapUpdate t m k v =>
    obtain ⟨S', h1, rfl⟩ := did_some h
    exact OpsOk.one (mapPut_run h1 hrep hs hl (ha m) (ha k) (ha v))
  case insert t m k v =>
    obtain ⟨S', h1, rfl⟩ := did_some h
    exact OpsOk.one (mapPut_run h1 hrep hs hl (ha m) (ha k) (ha v))
  case range t x =>
    obtain ⟨r, S', h1, rfl⟩ := res_some h
    exact OpsOk.one (rangeT_run h1 hrep hs hl (hf _ (List.mem_singleton.2 rfl)) (ha x))
  case next x b => exact nextT_run h hrep hs hl (ha x)
  case entry x =>
    obtain ⟨r, h1, rfl⟩ := val_some h
    exact hv (entryT_run h1 hrep hs (ha x))
  case typeAssert x s t ok =>
    obtain ⟨r, h1, rfl⟩ := val_some h
    exact hv (assertT_run h1 (ha x))
  case extract x i =>
    obtain ⟨r, h1, rfl⟩ := val_some h
    exact hv (extractT_run h1 (ha x))
  case call c =>
    cases hcc : c.callee with
    | value f => rw [hcc] at hc; cases hc
    | invoke _ _ => rw [hcc] at hc; cases hc
    | builtin b =>
      simp only [xCall, hcc, xCallee, xBuiltin] at h
      split at h
      · rename_i f hb
        obtain ⟨r, S', h1, rfl⟩ := res_some h
        simp only [resolve, hcc, pure_bind, invoke]
        refine OpsOk.one (bif_run hb h1 hrep ?_ hl (hf _ (List.mem_singleton.2 rfl)) (hargs c.args))
        simp only [footOf, hcc] at hs
        cases b <;> simp only [bifs] at hb <;> first | (cases hb; done) | skip
        case min => trivial
        case max => trivial
        case len =>
          simp only [Sees]
          rintro i ⟨l, e⟩ o ho
          rw [e] at hs; exact hs o ho
        all_goals exact hs
      · cases h
end
end Go.TX

/-
Pieces of code: what is to be shown of the executor; the parts that look at no memory.
-/
namespace Go.TX

/-- What the program and the given numbers must bear. -/
structure Hyp (E : Env) : Prop where
  mixed : E.P.follows .mixedOrders = true
  tr : ∀ f ∈ E.tr, (∃ fn c, E.P.funcs[f]? = some fn ∧ fn.body = some c) ∧ ∀ w, Calls E.P f #[] w (fun e w' => e = .returned (.bool true) ∧ Go.RowKit.Below w.heap.size w w')
  names : ∀ (f : FuncId) (fn : Func), E.P.funcs[f]? = some fn → fn.body.isSome = true → (fn.name == "runtime.NumGoroutine") = false
  clone : ∀ (g : FuncId), E.cl = some g → ∀ (fn : Func), E.P.funcs[g]? = some fn → fn.body = none → ∀ args w, (callFunc g args).run E.P w = ((do pure (.value (← Extern.MapsClone.clone args))) : Sem Next).run E.P w

def FreeAll (β : Be) (n : Nat) : Prop := ∀ i, n ≤ i → β i = none
theorem FreeAll.free {β : Be} {n : Nat} (h : FreeAll β n) (m : Nat) : Free β n m := fun i hi _ => h i hi

/-- Where a run stands. -/
structure At (P : Program) (K : Kn) (β : Be) (w : World) (S : TS) : Prop where
  sup : Sup S K
  rep : Rep P K β w
  low : Low S
  free : FreeAll β S.next

/-- How it goes on. -/
structure Step (P : Program) (K : Kn) (β : Be) (w : World) (S : TS) (K' : Kn) (β' : Be) (w' : World) (S' : TS) : Prop where
  rep : Rep P K' β' w'
  ext : Ext K β w K' β' w' S.next S'.next
  turn : Turn K S K' S'
  low : Low S'

section
variable {P : Program} {K K' K'' : Kn} {β β' β'' : Be} {w w' w'' : World} {S S' S'' : TS}
theorem Step.at (h : Step P K β w S K' β' w' S') (a : At P K β w S) : At P K' β' w' S' :=
  ⟨h.turn.sup a.sup, h.rep, h.low, fun i hi => by
    cases e : β' i with
    | none => rfl
    | some p =>
      have hn := a.free i (Nat.le_trans h.turn.next hi)
      have := h.ext.dom i hn (by rw [e]; simp)
      omega⟩
theorem Step.trans (h : Step P K β w S K' β' w' S') (k : Step P K' β' w' S' K'' β'' w'' S'') : Step P K β w S K'' β'' w'' S'' :=
  ⟨k.rep, h.ext.trans k.ext h.turn.next k.turn.next, h.turn.trans k.turn, k.low⟩
theorem Step.refl (a : At P K β w S) : Step P K β w S K β w S := ⟨a.rep, Ext.refl K β w _ _, Turn.refl K S, a.low⟩
theorem Step.drew (h : Step P K β w S K' β' w' S') : Step P K β w S K' β' w'.drew S' := ⟨h.rep.heap rfl, { h.ext with }, h.turn, h.low⟩
theorem At.drew (h : At P K β w S) : At P K β w.drew S := ⟨h.sup, h.rep.heap rfl, h.low, h.free⟩
theorem Step.of_drew (h : Step P K β w.drew S K' β' w' S') : Step P K β w S K' β' w' S' := ⟨h.rep, { h.ext with }, h.turn, h.low⟩
end

def exitRel : TExit → Exit → Prop
  | .normal, e => e = .normal
  | .exit i, e => e = .exit i
  | .goto l, e => e = .goto l
  | .ret, e => e = .ret

/-- The marks among the deferred calls. -/
def Defs (β : Be) : List Nat → List Deferred → List Deferred → Prop
  | [], d0, d1 => d1 = d0
  | i :: l, d0, d1 => ∃ p r, β i = some p ∧ d1 = { target := .collected p.b, args := #[] } :: r ∧ Defs β l d0 r
theorem Defs.mono {β β' : Be} (hs : Sub β β') : ∀ {l : List Nat} {d0 d1 : List Deferred}, Defs β l d0 d1 → Defs β' l d0 d1
  | [], _, _, h => h
  | _ :: _, _, _, ⟨p, r, h1, h2, h3⟩ => ⟨p, r, hs _ _ h1, h2, h3.mono hs⟩
theorem Defs.append {β : Be} : ∀ {l m : List Nat} {d0 d1 d2 : List Deferred}, Defs β l d1 d2 → Defs β m d0 d1 → Defs β (l ++ m) d0 d2
  | [], _, _, _, _, h, k => by cases h; exact k
  | _ :: _, _, _, _, _, ⟨p, r, h1, h2, h3⟩, k => ⟨p, r, h1, h2, h3.append k⟩

/-- What a piece of code comes to. -/
def Post (P : Program) (nt : Nat) (outs : List Out) (K : Kn) (β : Be) (w : World) (S : TS) (ds : List Deferred) (e : Exit) (a' : Act) (w' : World) : Prop :=
  ∃ o ∈ outs, ∃ K' β', exitRel o.e e ∧ Step P K β w S K' β' w' o.S ∧ tmRel β' nt o.tm a'.tmps ∧ Defs β' o.defs ds a'.defers

def Wide (F : Fence) : Prop := F = Fence.wide ∨ ∃ l, F = Fence.wide.inRound l

/-- The executor is right about every piece of code. -/
def CodeOk (E : Env) (ex : Ex) : Prop := ∀ (F : Fence) (m : Nat) (nt : Nat) (c : Code) (tm : Tm) (S : TS) (outs : List Out) (K : Kn) (β : Be) (w : World) (a : Act), Wide F →
  ex F.round.isSome nt c tm S = some outs → At E.P K β w S → tmRel β nt tm a.tmps → c.wpIn F m E.P (Post E.P nt outs K β w S a.defers) a w

theorem bind_some {α β : Type} {m : M α} {f : α → M β} {l : List β} (h : M.bind m f = some l) : ∃ as, m = some as ∧ ∀ a ∈ as, ∃ r, f a = some r ∧ ∀ x ∈ r, x ∈ l := by
  cases m with
  | none => simp [M.bind] at h
  | some as =>
    refine ⟨as, rfl, ?_⟩
    simp only [M.bind] at h
    induction as generalizing l with
    | nil => intro a ha; simp at ha
    | cons a as ih =>
      cases as with
      | nil =>
        simp only [M.bind.go] at h
        intro b hb; simp at hb; subst hb; exact ⟨l, h, fun x hx => hx⟩
      | cons b as =>
        simp only [M.bind.go] at h
        split at h
        · cases h
        · rename_i r hr
          split at h
          · cases h
          · rename_i s hs
            cases h
            intro c hc
            rcases List.mem_cons.1 hc with rfl | hc
            · exact ⟨r, hr, fun x hx => by simp [hx]⟩
            · obtain ⟨r', h1, h2⟩ := ih hs c hc
              exact ⟨r', h1, fun x hx => by simp [h2 x hx]⟩

theorem addDefs_some {ds : List Nat} {m : M Out} {l : List Out} (h : addDefs ds m = some l) : ∃ l0, m = some l0 ∧ l = l0.map fun q => { q with defs := q.defs ++ ds } := by
  cases m with
  | none => simp [addDefs] at h
  | some l0 =>
    refine ⟨l0, rfl, ?_⟩
    unfold addDefs at h
    simp only at h
    split at h
    · cases h; simp
    · cases h; rfl

theorem thenT_normal {rd : Bool} {nt : Nat} {ex : Ex} {c : Code} {r : Out} {l : List Out} (h : thenT rd nt ex c r = some l) (he : r.e = .normal) : ∃ l0, ex rd nt c r.tm r.S = some l0 ∧ l = l0.map fun q => { q with defs := q.defs ++ r.defs } := by
  unfold thenT at h; rw [he] at h; exact addDefs_some h
theorem thenT_other {rd : Bool} {nt : Nat} {ex : Ex} {c : Code} {r : Out} {l : List Out} (h : thenT rd nt ex c r = some l) (he : r.e ≠ .normal) : l = [r] := by
  unfold thenT at h
  cases e : r.e <;> rw [e] at h <;> first | exact absurd e he | (simp only [M.one, Option.some.injEq] at h; exact h.symm)

section
variable {E : Env} {ex : Ex} {F : Fence} {m nt : Nat} {tm : Tm} {S : TS} {outs : List Out} {K : Kn} {β : Be} {w : World} {a : Act}

theorem Post.after {P : Program} {l0 : List Out} {r : Out} {K1 : Kn} {β1 : Be} {w1 : World} {a1 : Act} {ds : List Deferred} {e : Exit} {a' : Act} {w' : World}
    (h : Post P nt l0 K1 β1 w1 r.S a1.defers e a' w') (st : Step P K β w S K1 β1 w1 r.S) (hd : Defs β1 r.defs ds a1.defers) (hm : ∀ x ∈ (l0.map fun q => { q with defs := q.defs ++ r.defs }), x ∈ outs) :
    Post P nt outs K β w S ds e a' w' := by
  obtain ⟨o, ho, K', β', h1, h2, h3, h4⟩ := h
  exact ⟨_, hm _ (List.mem_map.2 ⟨o, ho, rfl⟩), K', β', h1, st.trans h2, h3, h4.append (hd.mono h2.ext.sub)⟩

theorem one_ok {P : Program} {t : TExit} {e : Exit} (he : exitRel t e) (h : outs = [⟨t, tm, [], S⟩]) (hat : At P K β w S) (ht : tmRel β nt tm a.tmps) : Post P nt outs K β w S a.defers e a w :=
  ⟨_, by rw [h]; exact List.mem_singleton.2 rfl, K, β, he, Step.refl hat, ht, (show Defs β [] a.defers a.defers from rfl)⟩

theorem seq_ok (hex : CodeOk E ex) {x y : Code} (hF : Wide F) (h : sSeq x y E ex F.round.isSome nt tm S = some outs) (hat : At E.P K β w S) (ht : tmRel β nt tm a.tmps) :
    (Code.seq x y).wpIn F m E.P (Post E.P nt outs K β w S a.defers) a w := by
  obtain ⟨l, h1, h2⟩ := bind_some h
  refine wpIn_seq (wpIn_mono (hex F m nt x tm S l K β w a hF h1 hat ht) fun e a1 w1 hp => ?_)
  obtain ⟨o, ho, K1, β1, e1, st, ht1, hd⟩ := hp
  obtain ⟨r, hr, hsub⟩ := h2 o ho
  by_cases hn : o.e = .normal
  · rw [hn] at e1; simp only [exitRel] at e1; subst e1
    obtain ⟨l0, hl0, rfl⟩ := thenT_normal hr hn
    exact wpIn_mono (hex F m nt y o.tm o.S l0 K1 β1 w1 a1 hF hl0 (st.at hat) ht1) fun e2 a2 w2 hp2 => hp2.after st hd hsub
  · have := thenT_other hr hn; subst this
    have : Post E.P nt outs K β w S a.defers e a1 w1 := ⟨o, hsub o (by simp), K1, β1, e1, st, ht1, hd⟩
    cases e with
    | normal => cases h : o.e <;> rw [h] at e1 <;> simp only [exitRel] at e1 <;> first | exact absurd h hn | cases e1
    | _ => exact this

theorem cond_ok (hex : CodeOk E ex) {c : Operand} {x y : Code} (hF : Wide F) (h : sCond c x y E ex F.round.isSome nt tm S = some outs) (hat : At E.P K β w S) (ht : tmRel β nt tm a.tmps) :
    (Code.cond c x y).wpIn F m E.P (Post E.P nt outs K β w S a.defers) a w := by
  unfold sCond condT at h
  have hv := ev_rel ht c
  split at h
  · rename_i e; rw [e] at hv; simp only [rel] at hv
    exact wpIn_cond_true hv (hex F m nt x tm S outs K β w a hF h hat ht)
  · rename_i e; rw [e] at hv; simp only [rel] at hv
    exact wpIn_cond_false hv (hex F m nt y tm S outs K β w a hF h hat ht)
  · cases h

theorem block_ok (hex : CodeOk E ex) {id : Nat} {c : Code} (hF : Wide F) (h : sBlock id c E ex F.round.isSome nt tm S = some outs) (hat : At E.P K β w S) (ht : tmRel β nt tm a.tmps) :
    (Code.block id c).wpIn F m E.P (Post E.P nt outs K β w S a.defers) a w := by
  unfold sBlock at h
  split at h
  · cases h
  · rename_i l hl; cases h
    refine wpIn_block (wpIn_mono (hex F m nt c tm S l K β w a hF hl hat ht) fun e a1 w1 hp => ?_)
    obtain ⟨o, ho, K1, β1, e1, st, ht1, hd⟩ := hp
    have hm : outOf id o ∈ l.map (outOf id) := List.mem_map.2 ⟨o, ho, rfl⟩
    cases hoe : o.e with
    | exit j =>
      rw [hoe] at e1; simp only [exitRel] at e1; subst e1
      simp only [Exit.inBlock]
      cases hj : Nat.beq j id with
      | true =>
        have e := (beq_iff _ _).1 hj
        rw [if_pos e]
        refine ⟨_, hm, K1, β1, ?_, ?_, ?_, ?_⟩ <;> simp only [outOf, hoe, hj]
        · rfl
        · exact st
        · exact ht1
        · exact hd
      | false =>
        have e := (beq_false _ _).1 hj
        rw [if_neg e]
        refine ⟨_, hm, K1, β1, ?_, ?_, ?_, ?_⟩ <;> simp only [outOf, hoe, hj]
        · simp only [exitRel]
        · exact st
        · exact ht1
        · exact hd
    | normal =>
      rw [hoe] at e1; simp only [exitRel] at e1; subst e1
      refine ⟨_, hm, K1, β1, ?_, ?_, ?_, ?_⟩ <;> simp only [outOf, hoe]
      · rfl
      · exact st
      · exact ht1
      · exact hd
    | goto g =>
      rw [hoe] at e1; simp only [exitRel] at e1; subst e1
      refine ⟨_, hm, K1, β1, ?_, ?_, ?_, ?_⟩ <;> simp only [outOf, hoe]
      · simp only [exitRel]
      · exact st
      · exact ht1
      · exact hd
    | ret =>
      rw [hoe] at e1; simp only [exitRel] at e1; subst e1
      refine ⟨_, hm, K1, β1, ?_, ?_, ?_, ?_⟩ <;> simp only [outOf, hoe]
      · rfl
      · exact st
      · exact ht1
      · exact hd

theorem roundsIn_mono {P : Program} {c : Code} {Q Q' : Exit → Act → World → Prop} (hq : ∀ e a w, Q e a w → Q' e a w) : ∀ {k : Nat} {a : Act} {w : World}, Code.roundsIn F m P c Q k a w → Code.roundsIn F m P c Q' k a w
  | 0, _, _, h => h
  | k + 1, a, w, h => wpIn_mono (show c.wpIn F m P (Exit.then (Code.roundsIn F m P c Q k) Q) a w from h) fun e a1 w1 hp => by
    cases e with
    | normal => exact roundsIn_mono hq hp
    | _ => exact hq _ _ _ hp

/-- The executor is right about every loop: it takes less than k rounds. -/
def LoopOk (E : Env) (ex : Ex) (k : Nat) : Prop := ∀ (F : Fence) (m : Nat) (nt : Nat) (c : Code) (tm : Tm) (S : TS) (outs : List Out) (K : Kn) (β : Be) (w : World) (a : Act), Wide F →
  ex F.round.isSome nt (.loop c) tm S = some outs → At E.P K β w S → tmRel β nt tm a.tmps → Code.roundsIn F m E.P c (Post E.P nt outs K β w S a.defers) k a w

theorem loop_ok (hex : CodeOk E ex) {k : Nat} (hlp : LoopOk E ex k) {c : Code} (hF : Wide F) (h : sLoop c E ex F.round.isSome nt tm S = some outs) (hat : At E.P K β w S) (ht : tmRel β nt tm a.tmps) :
    Code.roundsIn F m E.P c (Post E.P nt outs K β w S a.defers) (k + 1) a w := by
  obtain ⟨l, h1, h2⟩ := bind_some h
  refine wpIn_mono (hex F m nt c tm S l K β w a hF h1 hat ht) fun e a1 w1 hp => ?_
  obtain ⟨o, ho, K1, β1, e1, st, ht1, hd⟩ := hp
  obtain ⟨r, hr, hsub⟩ := h2 o ho
  by_cases hn : o.e = .normal
  · rw [hn] at e1; simp only [exitRel] at e1; subst e1
    obtain ⟨l0, hl0, rfl⟩ := thenT_normal hr hn
    exact roundsIn_mono (fun e2 a2 w2 hp2 => hp2.after st hd hsub) (hlp F m nt c o.tm o.S l0 K1 β1 w1 a1 hF hl0 (st.at hat) ht1)
  · have := thenT_other hr hn; subst this
    have : Post E.P nt outs K β w S a.defers e a1 w1 := ⟨o, hsub o (by simp), K1, β1, e1, st, ht1, hd⟩
    cases e with
    | normal => cases h : o.e <;> rw [h] at e1 <;> simp only [exitRel] at e1 <;> first | exact absurd h hn | cases e1
    | _ => exact this
end
end Go.TX

/-
Regions whose order is that of the text.
-/
namespace Go.TX

theorem tmRel_put {β : Be} {nt : Nat} {tm tm' : Tm} {a : Act} {d : Option Tmp} {v : TV} {V : Value} (h : putT nt tm d v = some tm') (ht : tmRel β nt tm a.tmps) (hv : rel β v V) : tmRel β nt tm' (a.put d V).tmps := by
  cases d with
  | none => simp only [putT, Option.some.injEq] at h; subst h; exact ht
  | some t =>
    simp only [putT] at h
    split at h
    · rename_i hc
      simp only [Bool.and_eq_true, blt_iff] at hc
      cases h
      refine ⟨by simp [Act.put, ht.1], fun j => ?_⟩
      rw [Tree.get_set v tm t j hc.2]
      simp only [Act.put, Array.getD_eq_getD_getElem?, Array.getElem?_setIfInBounds]
      by_cases c : j = t
      · subst c
        rw [if_pos rfl, if_pos rfl, if_pos (by rw [ht.1]; exact hc.1)]
        exact hv
      · rw [if_neg c, if_neg (fun x => c x.symm)]
        have := ht.2 j
        rw [Array.getD_eq_getD_getElem?] at this
        exact this
    · cases h

theorem yielded_none {ops : Array Oper} {T : Array Value} {j : Nat} (h : ∀ c, ((ops[j]?).bind (·.dst)).bind (T[·]?) ≠ some (.bool c)) : yielded ops T j = none := by
  unfold yielded
  cases hx : ((ops[j]?).bind (·.dst)).bind (T[·]?) with
  | none => rfl
  | some V =>
    rw [hx] at h
    cases V with
    | bool c => exact absurd rfl (h c)
    | _ => rfl
theorem yielded_some {ops : Array Oper} {T : Array Value} {j : Nat} {c : Bool} (h : ((ops[j]?).bind (·.dst)).bind (T[·]?) = some (.bool c)) : yielded ops T j = some c := by
  unfold yielded; rw [h]

theorem wantedT_run {β : Be} {nt : Nat} {tm : Tm} {a : Act} {ops : Array Oper} {o : Oper} {b : Bool} (h : wantedT ops tm o = some b) (ht : tmRel β nt tm a.tmps) : Region.wanted o (yielded ops a.tmps) = b := by
  unfold wantedT at h
  unfold Region.wanted
  cases hg : o.guard with
  | none => rw [hg] at h; simp only [Option.some.injEq] at h; exact h
  | some g =>
    obtain ⟨j, want⟩ := g
    rw [hg] at h
    simp only at h ⊢
    rw [Array.getElem?_toList] at h
    have none_of : ∀ {c : Bool}, (∀ c, ((ops[j]?).bind (·.dst)).bind (a.tmps[·]?) ≠ some (.bool c)) → some false = some c → (yielded ops a.tmps j == some want) = c := fun h1 h2 => by
      rw [yielded_none h1]; cases h2; rfl
    cases hj : ops[j]? with
    | none => rw [hj] at h; exact none_of (by rw [hj]; simp) h
    | some q =>
      rw [hj] at h
      simp only at h
      cases hd : q.dst with
      | none => rw [hd] at h; exact none_of (by rw [hj]; simp [hd]) h
      | some t =>
        rw [hd] at h
        simp only at h
        have hb : ((ops[j]?).bind (·.dst)).bind (a.tmps[·]?) = a.tmps[t]? := by rw [hj]; simp [hd]
        have hr := ht.2 t
        rw [Array.getD_eq_getD_getElem?] at hr
        have noBool : ∀ {x : TV}, (tm.get t).getD (.tup []) = x → x ≠ .un → (∀ c, x ≠ .bool c) → ∀ c, ((ops[j]?).bind (·.dst)).bind (a.tmps[·]?) ≠ some (.bool c) := by
          intro x hx hu hb' c hT
          rw [hb] at hT
          rw [hx, hT] at hr
          simp only [Option.getD_some] at hr
          cases x <;> simp only [rel] at hr <;> first
            | exact hu rfl
            | exact hb' _ rfl
            | (cases hr; done)
            | (obtain ⟨_, _, h⟩ := hr; cases h; done)
            | (obtain ⟨_, _, _, _, h, _⟩ := hr; cases h; done)
            | (obtain ⟨_, _, h, _⟩ := hr; cases h; done)
            | (obtain ⟨_, h, _⟩ := hr; cases h; done)
        cases hx : tm.get t with
        | none =>
          rw [hx] at h
          exact none_of (noBool (x := .tup []) (by simp only [hx, Option.getD]) (by simp) (by simp)) h
        | some x =>
          rw [hx] at h
          cases x <;> simp only at h
          case un => cases h
          case bool c =>
            cases h
            rw [hx] at hr
            simp only [Option.getD_some, rel] at hr
            cases hT : a.tmps[t]? with
            | none => rw [hT] at hr; simp only [Option.getD_none] at hr; cases hr
            | some V =>
              rw [hT] at hr; simp only [Option.getD_some] at hr; subst hr
              rw [yielded_some (c := c) (by rw [hb, hT])]
              cases c <;> cases want <;> rfl
          all_goals exact none_of (noBool (congrArg (fun y => Option.getD y (.tup [])) hx) (by simp only [Option.getD]; exact TV.noConfusion) (by simp only [Option.getD]; exact fun _ => TV.noConfusion)) h

/-- The executor is right about every operation. -/
def OperOk (E : Env) (ex : Ex) : Prop := ∀ (F : Fence) (m : Nat) (S : TS) (tm : Tm) (nt : Nat) (o : Oper) (l : List (TV × TS)) (K : Kn) (β : Be) (w : World) (a : Act) (next : Act → World → Prop) (Q : Exit → Act → World → Prop), Wide F →
  runOp E ex S tm o = some l → At E.P K β w S → tmRel β nt tm a.tmps →
  (∀ q ∈ l, ∀ K' β' w' v, Step E.P K β w S K' β' w' q.2 → rel β' q.1 v → next (a.put o.dst v) w') → o.wpIn F m E.P a w next Q

theorem wide_fn {F : Fence} (h : Wide F) (f : FuncId) : F.fn f := by
  rcases h with rfl | ⟨l, rfl⟩ <;> exact trivial
theorem wide_depth {F : Fence} (h : Wide F) : F.depth = none := by
  rcases h with rfl | ⟨l, rfl⟩ <;> rfl

section
variable {E : Env} {ex : Ex} {F : Fence} {m nt : Nat}

/-- An operation that calls no function. -/
theorem plain_oper {S : TS} {tm : Tm} {o : Oper} {l : List (TV × TS)} {K : Kn} {β : Be} {w : World} {a : Act} {next : Act → World → Prop} {Q : Exit → Act → World → Prop} (hF : Wide F) (hc : isCall o.op = false)
    (h : runOp E ex S tm o = some l) (hrep : Rep E.P K β w) (hl : Low S) (hs : Looks S K (footOf tm o.op)) (hf : ∀ q ∈ l, Free β S.next q.2.next) (ht : tmRel β nt tm a.tmps)
    (hnext : ∀ q ∈ l, ∀ K' β' w' v, Step E.P K β w S K' β' w' q.2 → rel β' q.1 v → next (a.put o.dst v) w') : o.wpIn F m E.P a w next Q := by
  refine ⟨fun f _ => wide_fn hF f, ?_⟩
  have hnd : ∀ c, o.op ≠ .defer c := fun c e => by unfold runOp at h; rw [e] at h; simp [opFn, xNone] at h
  rw [Oper.semAt_eq _ _ _ hnd]
  obtain ⟨q, hq, V, w', β', K', h1, h2, h3, h4, h5, h6⟩ := op_run (P := E.P) rfl (ev_rel ht) h hc hrep hl hs hf
  rw [h1]
  cases V <;> simp only [gives] at h2
  case value v => exact hnext q hq K' β' w' v ⟨h3, h4, h5, h6⟩ h2
  case skip =>
    refine hnext q hq K' β' w' undef ⟨h3, h4, h5, h6⟩ ?_
    rw [h2]; simp only [rel]; exact ⟨#[], rfl, by rw [rels_nil]⟩

theorem undef_rel (β : Be) : rel β (.tup []) undef := by simp only [rel]; exact ⟨#[], rfl, by rw [rels_nil]⟩

/-- Operations one behind the other. -/
theorem runOps_ok (hop : OperOk E ex) {ops : Array Oper} {Q : Exit → Act → World → Prop} (hF : Wide F) : ∀ (os : List Oper) (k : Nat) {tm : Tm} {S : TS} {outs : List (Tm × TS)} {K : Kn} {β : Be} {w : World} {a : Act},
    (∀ j o, os[j]? = some o → ops[k + j]? = some o) → runOps E ex nt ops os tm S = some outs → At E.P K β w S → tmRel β nt tm a.tmps →
    (∀ q ∈ outs, ∀ K' β' w' a', Step E.P K β w S K' β' w' q.2 → tmRel β' nt q.1 a'.tmps → a'.defers = a.defers → Q .normal a' w') →
    wpOpsIn F m E.P ops Q ((List.range os.length).map (k + ·)) a w
  | [], k, tm, S, outs, K, β, w, a, _, h, hat, ht, hq => by
    simp only [runOps, M.one, Option.some.injEq] at h; subst h
    exact hq _ (List.mem_singleton.2 rfl) K β w a (Step.refl hat) ht rfl
  | o :: os, k, tm, S, outs, K, β, w, a, hops, h, hat, ht, hq => by
    have hl : (List.range (o :: os).length).map (k + ·) = k :: (List.range os.length).map (k + 1 + ·) := by
      rw [List.length_cons, List.range_succ_eq_map, List.map_cons, List.map_map]
      congr 1
      apply List.map_congr_left; intro j _; simp only [Function.comp]; omega
    rw [hl, wpOpsIn_cons]
    have h0 : ops[k]? = some o := by simpa using hops 0 o rfl
    have hrest : ∀ j o', os[j]? = some o' → ops[k + 1 + j]? = some o' := fun j o' hj => by
      rw [show k + 1 + j = k + (j + 1) by omega]; exact hops (j + 1) o' (by simpa using hj)
    simp only [wpOpIn, h0]
    simp only [runOps] at h
    split at h
    · cases h
    · rename_i hw
      rw [wantedT_run hw ht]
      simp only [Bool.false_eq_true, if_false]
      refine ⟨fun f _ => wide_fn hF f, ?_⟩
      split at h
      · cases h
      · rename_i tm' hp
        have hd : (a.put o.dst undef).defers = a.defers := by cases o.dst <;> rfl
        exact runOps_ok hop hF os (k + 1) hrest h hat (tmRel_put hp ht (undef_rel β)) (fun q hm K' β' w' a' st ht' hd' => hq q hm K' β' w' a' st ht' (hd'.trans hd))
    · rename_i hw
      rw [wantedT_run hw ht]
      simp only [if_true]
      obtain ⟨l, h1, h2⟩ := bind_some h
      refine hop F m S tm nt o l K β w a _ Q hF h1 hat ht fun q hm K' β' w' v st hv => ?_
      obtain ⟨r, hr, hsub⟩ := h2 q hm
      split at hr
      · cases hr
      · rename_i tm' hp
        have hd : (a.put o.dst v).defers = a.defers := by cases o.dst <;> rfl
        exact runOps_ok hop hF os (k + 1) hrest hr (st.at hat) (tmRel_put hp (ht.mono st.ext.sub) hv)
          (fun q' hm' K'' β'' w'' a'' st' ht' hd' => hq q' (hsub q' hm') K'' β'' w'' a'' (st.trans st') ht' (hd'.trans hd))

theorem outs_some {m : M (Tm × TS)} {l : List Out} (h : outs m = some l) : ∃ l0, m = some l0 ∧ l = l0.map fun r => ⟨.normal, r.1, [], r.2⟩ := by
  cases m with
  | none => simp [outs] at h
  | some l0 => simp only [outs, Option.some.injEq] at h; exact ⟨l0, rfl, h.symm⟩

theorem region_ok (hop : OperOk E ex) {id : Nat} {ops : Array Oper} (hF : Wide F) {tm : Tm} {S : TS} {l : List Out} {K : Kn} {β : Be} {w : World} {a : Act} (h : sRegion ops false E ex F.round.isSome nt tm S = some l)
    (hat : At E.P K β w S) (ht : tmRel β nt tm a.tmps) : (Code.region id ops false).wpIn F m E.P (Post E.P nt l K β w S a.defers) a w := by
  obtain ⟨l0, h1, rfl⟩ := outs_some h
  refine wpIn_region ?_
  have := runOps_ok (m := m) (Q := Post E.P nt (l0.map fun r => ⟨.normal, r.1, [], r.2⟩) K β w S a.defers) hop hF ops.toList 0 (fun j o hj => by simpa using hj) h1 hat ht
    (fun q hm K' β' w' a' st ht' hd => ⟨_, List.mem_map.2 ⟨q, hm, rfl⟩, K', β', rfl, st, ht', hd⟩)
  simpa using this
end
end Go.TX

/-
A function is left: marks among its deferred calls, its results.
-/
namespace Go.TX
section
variable {P : Program} {β : Be} {w : World} {K : Kn} {S : TS}

theorem run_take {b : Nat} (h : w.heap[b]? = some (.deferred (some []))) : (Instr.takeDeferred b).run P w = .ok [] (setO w b (.deferred none)) := by
  simp [Instr.takeDeferred, getObj, setObj, Sem.run, h, setO]

def resV (T : Array Value) : ResultVar → Sem Value
  | .tmp t => pure (T.getD t undef)
  | .cell a t => do loadVar t (← asAddr (T.getD a undef))

theorem resT_run {tm : Tm} {nt : Nat} {a : Act} (hrep : Rep P K β w) (hs : Sup S K) (ht : tmRel β nt tm a.tmps) : ∀ {rs : List ResultVar} {vs : List TV}, resT P tm S rs = some vs →
    ∃ Vs : List Value, (rs.mapM (resV a.tmps)).run P w = .ok Vs w ∧ rels β vs Vs
  | [], vs, h => by simp only [resT, Option.some.injEq] at h; subst h; exact ⟨[], by simp, by rw [rels_nil]⟩
  | .tmp t :: rs, vs, h => by
    simp only [resT] at h
    split at h
    · rename_i r hr; cases h
      obtain ⟨Vs, h1, h2⟩ := resT_run hrep hs ht hr
      refine ⟨_ :: Vs, ?_, by rw [rels_cons]; exact ⟨_, _, rfl, ev_rel ht (.tmp t), h2⟩⟩
      simp only [List.mapM_cons, resV, Sem.run_bind, Sem.run_pure, Result.andThen_ok, h1]
      rfl
    · cases h
  | .cell c t :: rs, vs, h => by
    simp only [resT] at h
    split at h
    · rename_i v r hv hr; cases h
      obtain ⟨Vs, h1, h2⟩ := resT_run hrep hs ht hr
      have hc := ev_rel ht (.tmp c)
      obtain ⟨V, h3, h4⟩ := loadT_run (w := w) hv hrep hc (fun i off _ o ho => hs i o ho)
      refine ⟨V :: Vs, ?_, by rw [rels_cons]; exact ⟨_, _, rfl, h4, h2⟩⟩
      have : (do loadVar t (← asAddr (a.tmps.getD c undef)) : Sem Value).run P w = .ok V w := by
        unfold loadT at hv
        split at hv
        · rename_i i off e
          rw [e] at hc; simp only [rel] at hc; obtain ⟨p, _, hc⟩ := hc
          have hc' : a.tmps.getD c undef = .pointer (some ⟨p.b, p.sh + off, none⟩) := hc
          have h3' : (Instr.loadAt t (a.tmps.getD c undef)).run P w = .ok V w := h3
          rw [hc'] at h3' ⊢
          simp only [Instr.loadAt, Instr.sureAddr, Sem.run_bind, Sem.run_pure, Result.andThen_ok] at h3'
          simp only [asAddr, Sem.run_bind, Sem.run_pure, Result.andThen_ok, h3']
        · cases hv
      simp only [Sem.run_bind] at this
      simp only [List.mapM_cons, resV, Sem.run_bind, Sem.run_pure, Result.andThen_ok, this, h1]
    · cases h

theorem resultT_run {tm : Tm} {nt : Nat} {a : Act} {fn : Func} {v : TV} (hrep : Rep P K β w) (hs : Sup S K) (ht : tmRel β nt tm a.tmps) (h : resultT P tm S fn.results.toList = some v) : ∃ V, (results fn a.tmps).run P w = .ok V w ∧ rel β v V := by
  unfold resultT at h
  cases hr : resT P tm S fn.results.toList with
  | none => rw [hr] at h; simp at h
  | some vs =>
    obtain ⟨Vs, h1, h2⟩ := resT_run (w := w) hrep hs ht hr
    have hm : (fn.results.mapM (resV a.tmps)).run P w = .ok Vs.toArray w := by
      rw [Array.mapM_eq_mapM_toList]; simp only [Sem.run_map, h1]; rfl
    have hrun : (results fn a.tmps).run P w = .ok (if h : Vs.toArray.size = 1 then Vs.toArray[0] else .tuple Vs.toArray) w := by
      have e : results fn a.tmps = (do let vs ← fn.results.mapM (resV a.tmps); pure (if h : vs.size = 1 then vs[0] else .tuple vs) : Sem Value) := by
        unfold results; congr 1
      rw [e, Sem.run_bind, hm]; rfl
    rw [hr] at h
    refine ⟨_, hrun, ?_⟩
    split at h
    · rename_i x e; cases e; cases h
      rw [rels_cons] at h2; obtain ⟨u, us, rfl, hu, hus⟩ := h2
      rw [rels_nil] at hus; subst hus
      simpa using hu
    · rename_i l hl e; cases e; cases h
      have : ¬ Vs.toArray.size = 1 := by
        rw [List.size_toArray, rels_length h2]
        intro c
        obtain ⟨y, rfl⟩ := List.length_eq_one_iff.1 c
        exact hl y rfl
      rw [dif_neg this]
      simp only [rel]; exact ⟨_, rfl, h2⟩
    · cases h

/-- The marks are met one by one; what is left is the results. -/
theorem leaves_ok {F : Fence} {m nt : Nat} {fn : Func} {R : Ending → World → Prop} {a : Act} : ∀ (ds : List Nat) {tm : Tm} {S S' : TS} {K0 K : Kn} {β0 β : Be} {w0 w : World} {S0 : TS} {v : TV} {dl : List Deferred},
    killAll S ds = some S' → resultT P tm S' fn.results.toList = some v → At P K0 β0 w0 S0 → Step P K0 β0 w0 S0 K β w S → tmRel β nt tm a.tmps → Defs β ds [] dl →
    (∀ K' w' V, Step P K0 β0 w0 S0 K' β w' S' → rel β v V → R (.returned V) w') → LeavesInM F m P fn a.tmps R dl .returning w
  | [], tm, S, S', K0, K, β0, β, w0, w, S0, v, dl, hk, hv, hat, st, ht, hd, hR => by
    simp only [killAll, Option.some.injEq] at hk; subst hk
    simp only [Defs] at hd; subst hd
    obtain ⟨V, h1, h2⟩ := resultT_run (w := w) st.rep (st.turn.sup hat.sup) ht hv
    exact ⟨V, h1, hR K w V st h2⟩
  | i :: ds, tm, S, S', K0, K, β0, β, w0, w, S0, v, dl, hk, hv, hat, st, ht, hd, hR => by
    simp only [killAll] at hk
    split at hk
    · rename_i hg
      obtain ⟨p, r, hp, rfl, hd⟩ := hd
      have hki := st.turn.sup hat.sup i _ hg
      obtain ⟨p', ob, hp', hb, ho⟩ := st.rep.obj i _ hki trivial
      rw [hp] at hp'; cases hp'
      have ho : ob = .deferred (some []) := ho
      subst ho
      obtain ⟨r1, r2⟩ := rep_put_plain (o' := .dead) (ob' := .deferred none) st.rep hki trivial hp trivial trivial
      obtain ⟨t1, t2⟩ := turn_put (K := K) (o := .dead) st.low hg
      refine ⟨by simp, .inl ⟨p.b, _, rfl, run_take hb, ?_⟩⟩
      exact leaves_ok ds hk hv hat (st.trans ⟨r1, r2 _ _, t1, t2⟩) ht hd hR
    · cases hk
end

/-- A function's temporaries at its start. -/
theorem layArgs_get : ∀ (l : List TV) (n : Nat) (tm : Tm) (j : Nat), n + l.length ≤ top → (layArgs l n tm).get j = if n ≤ j ∧ j < n + l.length then l[j - n]? else tm.get j
  | [], n, tm, j, _ => by rw [layArgs, if_neg (by simp)]
  | v :: l, n, tm, j, h => by
    simp only [List.length_cons] at h ⊢
    rw [layArgs, layArgs_get l (n + 1) _ j (by omega), Tree.get_set v tm n j (by omega)]
    by_cases c : n + 1 ≤ j ∧ j < n + 1 + l.length
    · rw [if_pos c, if_pos (by omega), show j - n = j - (n + 1) + 1 by omega, List.getElem?_cons_succ]
    · rw [if_neg c]
      by_cases e : j = n
      · subst e; rw [if_pos rfl, if_pos (by omega)]; simp
      · rw [if_neg e, if_neg (by omega)]

theorem enter_rel {β : Be} {args : List TV} {vs : Array Value} {nt : Nat} (h : rels β args vs.toList) (hle : args.length ≤ nt) (hnt : nt < top) : tmRel β nt (layArgs args 0 .leaf) (vs ++ Array.replicate (nt - vs.size) undef) := by
  have hl := rels_length h
  rw [Array.length_toList] at hl
  refine ⟨by simp; omega, fun j => ?_⟩
  rw [layArgs_get args 0 .leaf j (by omega), Array.getD_eq_getD_getElem?, Array.getElem?_append]
  by_cases c : j < args.length
  · rw [if_pos (by omega), if_pos (by omega)]
    obtain ⟨v, hv, hr⟩ := rels_get h j args[j] (by simp [c])
    rw [Array.getElem?_toList] at hv
    rw [hv]; simp only [Nat.sub_zero, List.getElem?_eq_getElem c, Option.getD_some]; exact hr
  · rw [if_neg (by omega), if_neg (by omega)]
    simp only [Tree.get_leaf, Option.getD_none]
    have : ((Array.replicate (nt - vs.size) undef)[j - vs.size]?).getD undef = undef := by
      rw [Array.getElem?_replicate]; split <;> rfl
    rw [this]; exact undef_rel β

/-- A function's body is run: its contract. -/
theorem bodyT_ok {E : Env} {ex : Ex} (hex : CodeOk E ex) {m : Nat} {f : FuncId} {fn : Func} {body : Code} {args : List TV} {vs : Array Value} {S : TS} {l : List (TV × TS)} {K : Kn} {β : Be} {w : World}
    (hf : E.P.funcs[f]? = some fn) (hb : fn.body = some body) (h : bodyT E.P ex fn body args S = some l) (hat : At E.P K β w S) (hr : rels β args vs.toList) :
    CallsIn Fence.wide m E.P f vs w (fun e w' => ∃ q ∈ l, ∃ K' β' v, e = .returned v ∧ rel β' q.1 v ∧ Step E.P K β w S K' β' w' q.2) := by
  unfold bodyT at h
  split at h
  · cases h
  · rename_i hc
    simp only [Bool.and_eq_true, ble_iff, blt_iff, lenT_eq] at hc
    obtain ⟨os, h1, h2⟩ := bind_some h
    refine callsIn_of_wp_marks hf hb trivial ?_
    refine wpIn_mono (hex Fence.wide m fn.ntmps body _ S os K β w { tmps := vs ++ Array.replicate (fn.ntmps - vs.size) undef, defers := [] } (.inl rfl) h1 hat (enter_rel hr hc.1 hc.2)) fun e a' w' hp => ?_
    obtain ⟨o, ho, K', β', e1, st, ht, hd⟩ := hp
    obtain ⟨r, hlv, hsub⟩ := h2 o ho
    have key : (∃ S2 v, killAll o.S o.defs = some S2 ∧ resultT E.P o.tm S2 fn.results.toList = some v ∧ r = [(v, S2)]) → (e = .normal ∨ e = .ret) → bodyPostM Fence.wide m E.P fn (fun e w' => ∃ q ∈ l, ∃ K' β' v, e = .returned v ∧ rel β' q.1 v ∧ Step E.P K β w S K' β' w' q.2) e a' w' := by
      rintro ⟨S2, v, hk, hv, rfl⟩ he
      have := leaves_ok (F := Fence.wide) (m := m) (fn := fn) (a := a') (R := fun e w' => ∃ q ∈ l, ∃ K' β' v, e = .returned v ∧ rel β' q.1 v ∧ Step E.P K β w S K' β' w' q.2) o.defs hk hv hat st ht hd
        (fun K'' w'' V st' hV => ⟨_, hsub _ (List.mem_singleton.2 rfl), K'', β', V, rfl, hV, st'⟩)
      rcases he with rfl | rfl <;> exact this
    unfold leaveT at hlv
    split at hlv
    · cases hlv
    · cases hlv
    · rename_i n1 n2
      split at hlv
      · cases hlv
      · rename_i S2 hk
        split at hlv
        · rename_i v hv
          simp only [M.one, Option.some.injEq] at hlv
          refine key ⟨S2, v, hk, hv, hlv.symm⟩ ?_
          cases hoe : o.e with
          | normal => rw [hoe] at e1; exact .inl e1
          | ret => rw [hoe] at e1; exact .inr e1
          | exit i => exact absurd hoe (n1 i)
          | goto g => exact absurd hoe (n2 g)
        · cases hlv
end Go.TX

/-
Outcomes made one: what is new is numbered anew.
-/
namespace Go.TX

/-! ### Equal by 'beq' is equal -/
theorem bl_inj {a b : ByteArray} (h : eqB (bl a) (bl b) = true) : a = b := (bytes_eq a b).1 h
mutual
theorem TV.beq_eq : ∀ {x y : TV}, TV.beq x y = true → x = y
  | .un, y, h => by cases y <;> simp [TV.beq] at h
  | .bool a, y, h => by cases y <;> simp only [TV.beq] at h <;> first | (cases h; done) | (rename_i b; cases a <;> cases b <;> simp at h <;> rfl)
  | .int k n, y, h => by
    cases y <;> simp only [TV.beq] at h <;> first | (cases h; done) | skip
    rename_i j m; simp only [Bool.and_eq_true, ikEq_iff, decide_eq_true_eq] at h; rw [h.1, h.2]
  | .str s, y, h => by
    cases y <;> simp only [TV.beq] at h <;> first | (cases h; done) | skip
    rename_i t; rw [bl_inj h]
  | .ptr i x, y, h => by
    cases y <;> simp only [TV.beq] at h <;> first | (cases h; done) | skip
    simp only [Bool.and_eq_true, beq_iff] at h; rw [h.1, h.2]
  | .nilp, y, h => by cases y <;> simp only [TV.beq] at h <;> first | (cases h; done) | rfl
  | .sl i o z n c, y, h => by
    cases y with
    | sl j p q m d =>
      cases c <;> cases d <;> simp only [TV.beq] at h <;> first | (cases h; done) | skip
      · simp only [Bool.and_eq_true, beq_iff] at h; obtain ⟨⟨⟨h1, h2⟩, h3⟩, h4⟩ := h; subst_vars; rfl
      · simp only [Bool.and_eq_true, beq_iff] at h; obtain ⟨⟨⟨⟨h1, h2⟩, h3⟩, h4⟩, h5⟩ := h; subst_vars; rfl
    | _ => cases c <;> simp [TV.beq] at h
  | .nils, y, h => by cases y <;> simp only [TV.beq] at h <;> first | (cases h; done) | rfl
  | .map i, y, h => by
    cases y <;> simp only [TV.beq] at h <;> first | (cases h; done) | skip
    rw [(beq_iff _ _).1 h]
  | .nilm, y, h => by cases y <;> simp only [TV.beq] at h <;> first | (cases h; done) | rfl
  | .fn f a b, y, h => by
    cases y <;> simp only [TV.beq] at h <;> first | (cases h; done) | skip
    simp only [Bool.and_eq_true, beq_iff] at h; rw [h.1.1, TV.beqs_eq h.1.2, TV.beqs_eq h.2]
  | .yld i, y, h => by
    cases y <;> simp only [TV.beq] at h <;> first | (cases h; done) | skip
    rw [(beq_iff _ _).1 h]
  | .nilfn, y, h => by cases y <;> simp only [TV.beq] at h <;> first | (cases h; done) | rfl
  | .iface t v, y, h => by
    cases y <;> simp only [TV.beq] at h <;> first | (cases h; done) | skip
    simp only [Bool.and_eq_true, beq_iff] at h; rw [h.1, TV.beq_eq h.2]
  | .niliface, y, h => by cases y <;> simp only [TV.beq] at h <;> first | (cases h; done) | rfl
  | .agg l, y, h => by
    cases y <;> simp only [TV.beq] at h <;> first | (cases h; done) | skip
    rw [TV.beqs_eq h]
  | .tup l, y, h => by
    cases y <;> simp only [TV.beq] at h <;> first | (cases h; done) | skip
    rw [TV.beqs_eq h]
theorem TV.beqs_eq : ∀ {x y : List TV}, TV.beqs x y = true → x = y
  | [], y, h => by cases y <;> simp only [TV.beqs] at h <;> first | (cases h; done) | rfl
  | a :: l, y, h => by
    cases y <;> simp only [TV.beqs] at h <;> first | (cases h; done) | skip
    simp only [Bool.and_eq_true] at h; rw [TV.beq_eq h.1, TV.beqs_eq h.2]
end
theorem entsBeq_eq : ∀ {x y : List TEnt}, entsBeq x y = true → x = y
  | [], y, h => by cases y <;> simp only [entsBeq] at h <;> first | (cases h; done) | rfl
  | a :: l, y, h => by
    cases y with
    | nil => simp [entsBeq] at h
    | cons b m =>
      simp only [entsBeq, Bool.and_eq_true] at h
      obtain ⟨h1, h2, h3⟩ := h
      obtain ⟨k, v⟩ := a; obtain ⟨k', v'⟩ := b
      have q1 : k = k' := TV.beq_eq h1
      have q2 : v = v' := TV.beq_eq h2
      subst q1; subst q2
      rw [entsBeq_eq h3]
theorem TObj.beq_eq {x y : TObj} (h : TObj.beq x y = true) : x = y := by
  unfold TObj.beq at h
  split at h
  · rw [TV.beqs_eq h]
  · rw [TV.beqs_eq h]
  · simp only [Bool.and_eq_true, beq_iff] at h; rw [h.1, h.2.1, entsBeq_eq h.2.2]
  · rfl
  · cases h
theorem natsBeq_eq : ∀ {x y : List Nat}, natsBeq x y = true → x = y
  | [], y, h => by cases y <;> simp only [natsBeq] at h <;> first | (cases h; done) | rfl
  | a :: l, y, h => by
    cases y with
    | nil => simp [natsBeq] at h
    | cons b m => simp only [natsBeq, Bool.and_eq_true, beq_iff] at h; rw [h.1, natsBeq_eq h.2]
theorem objsBeq_eq : ∀ {x y : List TObj}, objsBeq x y = true → x = y
  | [], y, h => by cases y <;> simp only [objsBeq] at h <;> first | (cases h; done) | rfl
  | a :: l, y, h => by
    cases y with
    | nil => simp [objsBeq] at h
    | cons b m => simp only [objsBeq, Bool.and_eq_true] at h; rw [TObj.beq_eq h.1, objsBeq_eq h.2]
theorem Canon.beq_eq {a b : Canon} (h : Canon.beq a b = true) : a = b := by
  unfold Canon.beq at h
  simp only [Bool.and_eq_true] at h
  obtain ⟨h1, h2, h3, h4⟩ := h
  obtain ⟨a1, a2, a3, a4⟩ := a; obtain ⟨b1, b2, b3, b4⟩ := b
  simp only at h1 h2 h3 h4
  rw [TV.beq_eq h1, natsBeq_eq h2, objsBeq_eq h3, objsBeq_eq h4]

/-! ### Renumbering -/
section
variable {c : Nat} {seen : List Nat} {β' β'' : Be}

theorem posN_some : ∀ {l : List Nat} {i k n : Nat}, posN i l k = some n → ∃ m, n = k + m ∧ l[m]? = some i
  | [], i, k, n, h => by simp [posN] at h
  | j :: l, i, k, n, h => by
    simp only [posN] at h
    split at h
    · rename_i e; cases h; exact ⟨0, rfl, by rw [(beq_iff _ _).1 e]; rfl⟩
    · obtain ⟨m, h1, h2⟩ := posN_some h; exact ⟨m + 1, by omega, by simpa using h2⟩
/-- β'' is β' under the new numbers. -/
def ReB (c : Nat) (seen : List Nat) (β' β'' : Be) : Prop := (∀ i, i < c → β'' i = β' i) ∧ ∀ n j, seen[n]? = some j → β'' (c + n) = β' j
theorem renN_rel (h : ReB c seen β' β'') {i j : Nat} (e : renN c seen i = some j) : β'' j = β' i := by
  unfold renN at e
  split at e
  · rename_i hc; cases e; exact h.1 i ((blt_iff _ _).1 hc)
  · obtain ⟨m, rfl, hm⟩ := posN_some e; exact h.2 m i hm
theorem map_some' {α γ : Type} {o : Option α} {f : α → γ} {y : γ} (h : o.map f = some y) : ∃ x, o = some x ∧ f x = y := by cases o <;> simp at h; exact ⟨_, rfl, h⟩

mutual
theorem renV_rel (h : ReB c seen β' β'') : ∀ {x y : TV} {v : Value}, renV c seen x = some y → rel β' x v → rel β'' y v
  | .un, y, v, e, hr => by simp only [renV, Option.some.injEq] at e; subst e; simp only [rel]
  | .bool _, y, v, e, hr => by simp only [renV, Option.some.injEq] at e; subst e; simp only [rel] at hr ⊢; exact hr
  | .int _ _, y, v, e, hr => by simp only [renV, Option.some.injEq] at e; subst e; simp only [rel] at hr ⊢; exact hr
  | .str _, y, v, e, hr => by simp only [renV, Option.some.injEq] at e; subst e; simp only [rel] at hr ⊢; exact hr
  | .ptr i o, y, v, e, hr => by
    obtain ⟨j, hj, rfl⟩ := map_some' (by simpa only [renV] using e)
    simp only [rel] at hr ⊢; obtain ⟨p, hp, hv⟩ := hr; exact ⟨p, by rw [renN_rel h hj]; exact hp, hv⟩
  | .nilp, y, v, e, hr => by simp only [renV, Option.some.injEq] at e; subst e; simp only [rel] at hr ⊢; exact hr
  | .sl i o z n k, y, v, e, hr => by
    obtain ⟨j, hj, rfl⟩ := map_some' (by simpa only [renV] using e)
    simp only [rel] at hr ⊢; obtain ⟨p, a, q, hp, hv⟩ := hr; exact ⟨p, a, q, by rw [renN_rel h hj]; exact hp, hv⟩
  | .nils, y, v, e, hr => by simp only [renV, Option.some.injEq] at e; subst e; simp only [rel] at hr ⊢; exact hr
  | .map i, y, v, e, hr => by
    obtain ⟨j, hj, rfl⟩ := map_some' (by simpa only [renV] using e)
    simp only [rel] at hr ⊢; obtain ⟨p, hp, hv⟩ := hr; exact ⟨p, by rw [renN_rel h hj]; exact hp, hv⟩
  | .nilm, y, v, e, hr => by simp only [renV, Option.some.injEq] at e; subst e; simp only [rel] at hr ⊢; exact hr
  | .fn f a b, y, v, e, hr => by
    simp only [renV] at e
    split at e
    · rename_i x z hx hz; cases e
      simp only [rel] at hr ⊢; obtain ⟨A, B, hv, h1, h2⟩ := hr
      exact ⟨A, B, hv, renVs_rel h hx h1, renVs_rel h hz h2⟩
    · cases e
  | .yld i, y, v, e, hr => by
    obtain ⟨j, hj, rfl⟩ := map_some' (by simpa only [renV] using e)
    simp only [rel] at hr ⊢; obtain ⟨p, hp, hv⟩ := hr; exact ⟨p, by rw [renN_rel h hj]; exact hp, hv⟩
  | .nilfn, y, v, e, hr => by simp only [renV, Option.some.injEq] at e; subst e; simp only [rel] at hr ⊢; exact hr
  | .iface t x, y, v, e, hr => by
    obtain ⟨z, hz, rfl⟩ := map_some' (by simpa only [renV] using e)
    simp only [rel] at hr ⊢; obtain ⟨u, hv, h1⟩ := hr; exact ⟨u, hv, renV_rel h hz h1⟩
  | .niliface, y, v, e, hr => by simp only [renV, Option.some.injEq] at e; subst e; simp only [rel] at hr ⊢; exact hr
  | .agg l, y, v, e, hr => by
    obtain ⟨z, hz, rfl⟩ := map_some' (by simpa only [renV] using e)
    simp only [rel] at hr ⊢; obtain ⟨A, hv, h1⟩ := hr; exact ⟨A, hv, renVs_rel h hz h1⟩
  | .tup l, y, v, e, hr => by
    obtain ⟨z, hz, rfl⟩ := map_some' (by simpa only [renV] using e)
    simp only [rel] at hr ⊢; obtain ⟨A, hv, h1⟩ := hr; exact ⟨A, hv, renVs_rel h hz h1⟩
theorem renVs_rel (h : ReB c seen β' β'') : ∀ {x y : List TV} {v : List Value}, renVs c seen x = some y → rels β' x v → rels β'' y v
  | [], y, v, e, hr => by simp only [renVs, Option.some.injEq] at e; subst e; rw [rels_nil] at hr ⊢; exact hr
  | x :: l, y, v, e, hr => by
    simp only [renVs] at e
    split at e
    · rename_i x' l' hx hl; cases e
      rw [rels_cons] at hr ⊢; obtain ⟨u, us, hv, h1, h2⟩ := hr
      exact ⟨u, us, hv, renV_rel h hx h1, renVs_rel h hl h2⟩
    · cases e
end
theorem renVs_get : ∀ {x y : List TV}, renVs c seen x = some y → y.length = x.length ∧ ∀ (j : Nat) (b : TV), y[j]? = some b → ∃ a, x[j]? = some a ∧ renV c seen a = some b
  | [], y, e => by simp only [renVs, Option.some.injEq] at e; subst e; simp
  | x :: l, y, e => by
    simp only [renVs] at e
    split at e
    · rename_i x' l' hx hl; cases e
      obtain ⟨h1, h2⟩ := renVs_get hl
      refine ⟨by simp [h1], fun j b hb => ?_⟩
      cases j with
      | zero => simp at hb; subst hb; exact ⟨x, rfl, hx⟩
      | succ j => simp at hb; obtain ⟨a, ha, hr⟩ := h2 j b hb; exact ⟨a, by simpa using ha, hr⟩
    · cases e
end
end Go.TX

/-
Outcomes made one: whole memories.
-/
namespace Go.TX
section
variable {P : Program} {c : Nat} {seen : List Nat} {β β' β'' : Be}

mutual
/-- What was known of old is known under the new numbers. -/
theorem rel_low (h : ∀ i p, β i = some p → β'' i = β' i) : ∀ {x : TV} {v0 v : Value}, rel β x v0 → rel β' x v → rel β'' x v
  | .un, _, _, _, _ => by simp only [rel]
  | .bool _, _, _, _, hr => by simp only [rel] at hr ⊢; exact hr
  | .int _ _, _, _, _, hr => by simp only [rel] at hr ⊢; exact hr
  | .str _, _, _, _, hr => by simp only [rel] at hr ⊢; exact hr
  | .ptr i o, _, _, h0, hr => by
    simp only [rel] at h0 hr ⊢; obtain ⟨p0, hp0, _⟩ := h0; obtain ⟨p, hp, hv⟩ := hr; exact ⟨p, by rw [h i p0 hp0]; exact hp, hv⟩
  | .nilp, _, _, _, hr => by simp only [rel] at hr ⊢; exact hr
  | .sl i o z n k, _, _, h0, hr => by
    simp only [rel] at h0 hr ⊢; obtain ⟨p0, _, _, hp0, _⟩ := h0; obtain ⟨p, a, q, hp, hv⟩ := hr; exact ⟨p, a, q, by rw [h i p0 hp0]; exact hp, hv⟩
  | .nils, _, _, _, hr => by simp only [rel] at hr ⊢; exact hr
  | .map i, _, _, h0, hr => by
    simp only [rel] at h0 hr ⊢; obtain ⟨p0, hp0, _⟩ := h0; obtain ⟨p, hp, hv⟩ := hr; exact ⟨p, by rw [h i p0 hp0]; exact hp, hv⟩
  | .nilm, _, _, _, hr => by simp only [rel] at hr ⊢; exact hr
  | .fn f a b, _, _, h0, hr => by
    simp only [rel] at h0 hr ⊢; obtain ⟨A0, B0, _, q1, q2⟩ := h0; obtain ⟨A, B, hv, h1, h2⟩ := hr
    exact ⟨A, B, hv, rels_low h q1 h1, rels_low h q2 h2⟩
  | .yld i, _, _, h0, hr => by
    simp only [rel] at h0 hr ⊢; obtain ⟨p0, hp0, _⟩ := h0; obtain ⟨p, hp, hv⟩ := hr; exact ⟨p, by rw [h i p0 hp0]; exact hp, hv⟩
  | .nilfn, _, _, _, hr => by simp only [rel] at hr ⊢; exact hr
  | .iface t x, _, _, h0, hr => by
    simp only [rel] at h0 hr ⊢; obtain ⟨u0, _, q⟩ := h0; obtain ⟨u, hv, h1⟩ := hr; exact ⟨u, hv, rel_low h q h1⟩
  | .niliface, _, _, _, hr => by simp only [rel] at hr ⊢; exact hr
  | .agg l, _, _, h0, hr => by
    simp only [rel] at h0 hr ⊢; obtain ⟨A0, _, q⟩ := h0; obtain ⟨A, hv, h1⟩ := hr; exact ⟨A, hv, rels_low h q h1⟩
  | .tup l, _, _, h0, hr => by
    simp only [rel] at h0 hr ⊢; obtain ⟨A0, _, q⟩ := h0; obtain ⟨A, hv, h1⟩ := hr; exact ⟨A, hv, rels_low h q h1⟩
theorem rels_low (h : ∀ i p, β i = some p → β'' i = β' i) : ∀ {x : List TV} {v0 v : List Value}, rels β x v0 → rels β' x v → rels β'' x v
  | [], _, v, _, hr => by rw [rels_nil] at hr ⊢; exact hr
  | x :: l, _, v, h0, hr => by
    rw [rels_cons] at h0 hr ⊢; obtain ⟨u0, us0, _, q1, q2⟩ := h0; obtain ⟨u, us, hv, h1, h2⟩ := hr
    exact ⟨u, us, hv, rel_low h q1 h1, rels_low h q2 h2⟩
end

theorem objRel_low (h : ∀ i p, β i = some p → β'' i = β' i) {p0 p : Pl} {ob0 ob : Obj} : ∀ {o : TObj}, objRel P β p0 o ob0 → objRel P β' p o ob → objRel P β'' p o ob
  | .cells cs fz, h0, hr => by
    obtain ⟨_, _, _, _, _, _, _, q⟩ := h0
    obtain ⟨C, e, f, ho, h1, h2, h3, h4⟩ := hr
    exact ⟨C, e, f, ho, h1, h2, h3, fun j x hx => by
      obtain ⟨v0, _, r0⟩ := q j x hx; obtain ⟨v, hv, r⟩ := h4 j x hx; exact ⟨v, hv, rel_low h r0 r⟩⟩
  | .map kt es clock, h0, hr => by
    obtain ⟨_, _, q⟩ := h0
    obtain ⟨E, ho, m⟩ := hr
    have to' : ∀ e ∈ es, ∃ e' ∈ E.toList, e'.key = kv e.key ∧ rel β'' e.val e'.val := fun e he => by
      obtain ⟨_, _, _, r0⟩ := q.to e he; obtain ⟨e', m1, k1, r⟩ := m.to e he; exact ⟨e', m1, k1, rel_low h r0 r⟩
    exact ⟨E, ho, { m with to := to' }⟩
  | .miter none since seen, _, hr => hr
  | .miter (some m) since seen, h0, hr => by
    obtain ⟨_, pm0, _, hp0, _⟩ := h0
    obtain ⟨hs, pm, S, hp, ho⟩ := hr
    exact ⟨hs, pm, S, by rw [h m pm0 hp0]; exact hp, ho⟩
  | .siter s pos, _, hr => hr
  | .loop st pe nt tm ps as bd d, h0, hr => by
    obtain ⟨_, _, pd0, hd0, ht0, _⟩ := h0
    obtain ⟨fn, T, pd, hd, ht, ho⟩ := hr
    exact ⟨fn, T, pd, by rw [h d pd0 hd0]; exact hd, ⟨ht.1, fun t => rel_low h (ht0.2 t) (ht.2 t)⟩, ho⟩
  | .dfr, _, hr => hr
  | .dead, _, _ => trivial

theorem insE_perm (x : TEnt) : ∀ l : List TEnt, (insE x l).Perm (x :: l)
  | [] => List.Perm.refl _
  | e :: l => by
    simp only [insE]
    split
    · exact ((insE_perm x l).cons e).trans (List.Perm.swap x e l)
    · exact List.Perm.refl _
theorem sortE_perm : ∀ l : List TEnt, (sortE l).Perm l
  | [] => List.Perm.refl _
  | e :: l => (insE_perm e _).trans ((sortE_perm l).cons e)

theorem renV_key {kt : TypeId} {k k' : TV} (hk : kFit P kt k = true) (h : renV c seen k = some k') : k' = k := by
  have one : ∀ {t : TypeId} {x y : TV}, kFit1 P t x = true → renV c seen x = some y → y = x := by
    intro t x y hx hy
    rcases kFit1_cases hx with ⟨_, _, _, rfl⟩ | ⟨_, _, rfl⟩ | ⟨_, _, rfl⟩ <;> simp only [renV, Option.some.injEq] at hy <;> exact hy.symm
  rcases kFit_cases hk with h1 | ⟨fs, l, _, rfl, _, hf⟩
  · exact one h1 h
  · obtain ⟨z, hz, rfl⟩ := map_some' (by simpa only [renV] using h)
    have : ∀ {fs : List Field} {n : Nat} {l z : List TV}, kFits P fs n l = true → renVs c seen l = some z → z = l := by
      intro fs
      induction fs with
      | nil => intro n l z hl hz; cases l with
        | nil => simp only [renVs, Option.some.injEq] at hz; exact hz.symm
        | cons _ _ => simp [kFits] at hl
      | cons f fs ih =>
        intro n l z hl hz
        obtain ⟨v, vs, rfl, _, _, h1, h2⟩ := kFits_cons hl
        simp only [renVs] at hz
        split at hz
        · rename_i a b ha hb; cases hz; rw [one h1 ha, ih h2 hb]
        · cases hz
    rw [this hf hz]

theorem renEs_spec : ∀ {es es' : List TEnt}, renEs c seen es = some es' → es'.length = es.length ∧
    (∀ e' ∈ es', ∃ e ∈ es, renV c seen e.key = some e'.key ∧ renV c seen e.val = some e'.val) ∧
    ∀ {kt : TypeId}, (∀ e ∈ es, kFit P kt e.key = true) → kks es' = kks es
  | [], es', h => by simp only [renEs, Option.some.injEq] at h; subst h; exact ⟨rfl, by simp, fun _ => rfl⟩
  | e :: es, es', h => by
    simp only [renEs] at h
    split at h
    · rename_i k v y hk hv hy; cases h
      obtain ⟨h1, h2, h3⟩ := renEs_spec hy
      refine ⟨by simp [h1], fun e' he' => ?_, fun hf => ?_⟩
      · rcases List.mem_cons.1 he' with rfl | he'
        · exact ⟨e, by simp, hk, hv⟩
        · obtain ⟨x, hx, r⟩ := h2 e' he'; exact ⟨x, by simp [hx], r⟩
      · have := h3 (fun x hx => hf x (by simp [hx]))
        simp only [kks, List.map_cons] at this ⊢
        rw [this, renV_key (hf e (by simp)) hk]
    · cases h

theorem renO_rel (h : ReB c seen β' β'') {p : Pl} {o0 o : TObj} {ob : Obj} (e : renO c seen (some o0) = some o) (hr : objRel P β' p o0 ob) : objRel P β'' p o ob := by
  unfold renO at e
  split at e
  · rename_i cs st e0; cases e0
    obtain ⟨cs', hc, rfl⟩ := map_some' e
    obtain ⟨C, et, f, ho, h1, h2, h3, h4⟩ := hr
    obtain ⟨g1, g2⟩ := renVs_get hc
    exact ⟨C, et, f, ho, h1, by rw [g1]; exact h2, h3, fun j x hx => by
      obtain ⟨a, ha, hra⟩ := g2 j x hx
      obtain ⟨v, hv, r⟩ := h4 j a ha
      exact ⟨v, hv, renV_rel h hra r⟩⟩
  · rename_i t es k e0; cases e0
    obtain ⟨es', hc, rfl⟩ := map_some' e
    obtain ⟨E, ho, m⟩ := hr
    obtain ⟨g1, g2, g3⟩ := renEs_spec (P := P) hc
    have hp := sortE_perm es
    have hfs : ∀ e ∈ sortE es, kFit P t e.key = true := fun e he => m.fit e (hp.mem_iff.1 he)
    have hk := g3 hfs
    have hfit : ∀ e ∈ es', kFit P t e.key = true := fun e he => by
      obtain ⟨x, hx, r1, _⟩ := g2 e he
      rw [renV_key (hfs x hx) r1]; exact hfs x hx
    refine ⟨E, ho, { fit := hfit, dis := (dis_iff hfit).2 ?_, keys := m.keys, size := ?_, to := fun e he => ?_, fro := fun e' he' => ?_, born := m.born, stamps := m.stamps }⟩
    · rw [hk]
      exact ((hp.map _).nodup_iff).2 ((dis_iff m.fit).1 m.dis)
    · rw [g1, hp.length_eq]; exact m.size
    · obtain ⟨x, hx, r1, r2⟩ := g2 e he
      obtain ⟨e', m1, k1, r⟩ := m.to x (hp.mem_iff.1 hx)
      exact ⟨e', m1, by rw [k1, renV_key (hfs x hx) r1], renV_rel h r2 r⟩
    · obtain ⟨x, hx, k1⟩ := m.fro e' he'
      have : kv x.key ∈ kks es' := by rw [hk]; exact List.mem_map.2 ⟨x, hp.mem_iff.2 hx, rfl⟩
      obtain ⟨y, hy, k2⟩ := kks_mem this
      exact ⟨y, hy, k1.trans k2⟩
  · cases e; trivial
  · cases e
theorem renO_alive {o0 : Option TObj} {o : TObj} (e : renO c seen o0 = some o) (a : alive o) : ∃ x, o0 = some x ∧ alive x ∧ (∀ m s l, o ≠ .miter m s l) ∧ (∀ kt es k, o = .map kt es k → ∃ es0, x = .map kt es0 k) := by
  unfold renO at e
  split at e
  · obtain ⟨_, _, rfl⟩ := map_some' e; exact ⟨_, rfl, trivial, by simp, by simp⟩
  · rename_i t es k
    obtain ⟨_, _, rfl⟩ := map_some' e
    exact ⟨_, rfl, trivial, by simp, fun kt es' k' h => by cases h; exact ⟨es, rfl⟩⟩
  · cases e; exact a.elim
  · cases e
theorem renO_noiter {o0 : Option TObj} {o : TObj} (e : renO c seen o0 = some o) : ∀ m s l, o ≠ .miter m s l := by
  unfold renO at e
  split at e
  · obtain ⟨_, _, rfl⟩ := map_some' e; simp
  · obtain ⟨_, _, rfl⟩ := map_some' e; simp
  · cases e; simp
  · cases e
end

/-! ### Which are old, which are new -/
theorem insN_mem (i j : Nat) : ∀ l : List Nat, j ∈ insN i l ↔ j = i ∨ j ∈ l
  | [] => by simp [insN]
  | k :: l => by
    simp only [insN]
    split
    · rename_i h; have := (beq_iff _ _).1 h; subst this; simp
    · split
      · simp
      · rw [List.mem_cons, insN_mem i j l, List.mem_cons]
        constructor
        · rintro (h | h | h); exact .inr (.inl h); exact .inl h; exact .inr (.inr h)
        · rintro (h | h | h); exact .inr (.inl h); exact .inl h; exact .inr (.inr h)
theorem insN_sorted (i : Nat) : ∀ {l : List Nat}, l.Pairwise (· < ·) → (insN i l).Pairwise (· < ·)
  | [], _ => by simp [insN]
  | k :: l, h => by
    have h' := List.pairwise_cons.1 h
    simp only [insN]
    split
    · exact h
    · rename_i hk; have hk := (beq_false _ _).1 hk
      split
      · rename_i hi; have hi := (blt_iff _ _).1 hi
        exact List.pairwise_cons.2 ⟨fun x hx => by
          rcases List.mem_cons.1 hx with rfl | hx
          · exact hi
          · exact Nat.lt_trans hi (h'.1 x hx), h⟩
      · rename_i hi; have hi := (blt_false _ _).1 hi
        refine List.pairwise_cons.2 ⟨fun x hx => ?_, insN_sorted i h'.2⟩
        rcases (insN_mem i x l).1 hx with rfl | hx
        · omega
        · exact h'.1 x hx
theorem oldsOf_mem {c : Nat} : ∀ {l : List Nat} {i : Nat}, i ∈ oldsOf c l ↔ i ∈ l ∧ i < c
  | [], i => by simp [oldsOf]
  | j :: l, i => by
    simp only [oldsOf]
    split
    · rename_i h; have h := (blt_iff _ _).1 h
      rw [insN_mem, oldsOf_mem (l := l), List.mem_cons]
      constructor
      · rintro (rfl | ⟨a, b⟩); exact ⟨.inl rfl, h⟩; exact ⟨.inr a, b⟩
      · rintro ⟨rfl | a, b⟩; exact .inl rfl; exact .inr ⟨a, b⟩
    · rename_i h; have h := (blt_false _ _).1 h
      rw [oldsOf_mem (l := l), List.mem_cons]
      constructor
      · rintro ⟨a, b⟩; exact ⟨.inr a, b⟩
      · rintro ⟨rfl | a, b⟩; omega; exact ⟨a, b⟩
theorem oldsOf_sorted {c : Nat} : ∀ l : List Nat, (oldsOf c l).Pairwise (· < ·)
  | [] => List.Pairwise.nil
  | j :: l => by
    simp only [oldsOf]
    split
    · exact insN_sorted j (oldsOf_sorted l)
    · exact oldsOf_sorted l
theorem nodup_of_lt {l : List Nat} (h : l.Pairwise (· < ·)) : l.Nodup := h.imp (fun h => by omega)

mutual
theorem idsV_ge {c : Nat} : ∀ {x : TV} {i : Nat}, i ∈ idsV c x → c ≤ i
  | .ptr j _, i, h => by simp only [idsV] at h; exact pick_ge h
  | .sl j _ _ _ _, i, h => by simp only [idsV] at h; exact pick_ge h
  | .map j, i, h => by simp only [idsV] at h; exact pick_ge h
  | .yld j, i, h => by simp only [idsV] at h; exact pick_ge h
  | .fn _ a b, i, h => by
    simp only [idsV, List.mem_append] at h
    rcases h with h | h
    · exact idsVs_ge h
    · exact idsVs_ge h
  | .iface _ v, i, h => by simp only [idsV] at h; exact idsV_ge h
  | .agg l, i, h => by simp only [idsV] at h; exact idsVs_ge h
  | .tup l, i, h => by simp only [idsV] at h; exact idsVs_ge h
  | .un, _, h | .bool _, _, h | .int _ _, _, h | .str _, _, h | .nilp, _, h | .nils, _, h | .nilm, _, h | .nilfn, _, h | .niliface, _, h => by simp [idsV] at h
theorem idsVs_ge {c : Nat} : ∀ {x : List TV} {i : Nat}, i ∈ idsVs c x → c ≤ i
  | [], i, h => by simp [idsVs] at h
  | v :: l, i, h => by
    simp only [idsVs, List.mem_append] at h
    rcases h with h | h
    · exact idsV_ge h
    · exact idsVs_ge h
theorem pick_ge {c j i : Nat} (h : i ∈ pick c j) : c ≤ i := by
  unfold pick at h
  split at h
  · rename_i hc; simp at h; subst h; exact (ble_iff _ _).1 hc
  · simp at h
end
theorem idsEs_ge {c : Nat} : ∀ {x : List TEnt} {i : Nat}, i ∈ idsEs c x → c ≤ i
  | [], i, h => by simp [idsEs] at h
  | e :: l, i, h => by
    simp only [idsEs, List.mem_append] at h
    rcases h with h | h | h
    · exact idsV_ge h
    · exact idsV_ge h
    · exact idsEs_ge h
theorem idsO_ge {c : Nat} {o : Option TObj} {i : Nat} (h : i ∈ idsO c o) : c ≤ i := by
  unfold idsO at h
  split at h
  · exact idsVs_ge h
  · exact idsEs_ge h
  · simp at h
theorem reach_spec {S : TS} {c : Nat} : ∀ (n : Nat) {seen todo : List Nat}, seen.Nodup → (∀ i ∈ seen, c ≤ i) → (∀ i ∈ todo, c ≤ i) → (reach S c n seen todo).Nodup ∧ ∀ i ∈ reach S c n seen todo, c ≤ i
  | 0, seen, todo, h1, h2, _ => ⟨h1, h2⟩
  | n + 1, seen, [], h1, h2, _ => ⟨h1, h2⟩
  | n + 1, seen, i :: todo, h1, h2, h3 => by
    simp only [reach]
    split
    · exact reach_spec n h1 h2 (fun j hj => h3 j (by simp [hj]))
    · rename_i hm
      have hm : ¬ i ∈ seen := fun x => by rw [(memN_iff i seen).2 x] at hm; cases hm
      refine reach_spec n ?_ ?_ ?_
      · refine List.nodup_append.2 ⟨h1, by simp, fun a ha b hb e => ?_⟩
        simp at hb; subst hb; subst e; exact hm ha
      · intro j hj
        rcases List.mem_append.1 hj with hj | hj
        · exact h2 j hj
        · simp at hj; subst hj; exact h3 j (by simp)
      · intro j hj
        rcases List.mem_append.1 hj with hj | hj
        · exact h3 j (by simp [hj])
        · exact idsO_ge hj
end Go.TX

/-
Outcomes made one: the theorem.
-/
namespace Go.TX

def putAllK (K : Kn) : List Nat → List TObj → Kn
  | i :: l, o :: m => putAllK (upd K i o) l m
  | _, _ => K
def newAllK (K : Kn) (n : Nat) : List TObj → Kn
  | o :: m => newAllK (upd K n o) (n + 1) m
  | [] => K
theorem putAllK_out : ∀ {l : List Nat} {m : List TObj} {K : Kn} {j : Nat}, j ∉ l → putAllK K l m j = K j
  | [], m, K, j, _ => by simp [putAllK]
  | i :: l, [], K, j, _ => by simp [putAllK]
  | i :: l, o :: m, K, j, h => by
    simp only [List.mem_cons, not_or] at h
    rw [putAllK, putAllK_out h.2, upd_ne K o h.1]
theorem putAllK_in : ∀ {l : List Nat} {m : List TObj} {K : Kn} {j n : Nat} {o : TObj}, l.Nodup → l[n]? = some j → m[n]? = some o → putAllK K l m j = some o
  | [], m, K, j, n, o, _, h, _ => by simp at h
  | i :: l, [], K, j, n, o, _, _, h => by simp at h
  | i :: l, x :: m, K, j, 0, o, hn, h, h' => by
    simp at h h'; subst h; subst h'
    rw [List.nodup_cons] at hn
    rw [putAllK, putAllK_out hn.1, upd_same]
  | i :: l, x :: m, K, j, n + 1, o, hn, h, h' => by
    rw [List.nodup_cons] at hn
    rw [putAllK]; exact putAllK_in hn.2 (by simpa using h) (by simpa using h')
theorem newAllK_get : ∀ {m : List TObj} {K : Kn} {n j : Nat}, newAllK K n m j = if n ≤ j ∧ j < n + m.length then m[j - n]? else K j
  | [], K, n, j => by rw [newAllK, if_neg (by simp)]
  | o :: m, K, n, j => by
    rw [newAllK, newAllK_get]
    simp only [List.length_cons]
    by_cases c : n + 1 ≤ j ∧ j < n + 1 + m.length
    · rw [if_pos c, if_pos (by omega), show j - n = j - (n + 1) + 1 by omega, List.getElem?_cons_succ]
    · rw [if_neg c]
      by_cases e : j = n
      · subst e; rw [upd_same, if_pos (by omega)]; simp
      · rw [upd_ne K o e, if_neg (by omega)]

theorem turn_new' {K : Kn} {S : TS} {o : TObj} (hl : Low S) (hr : S.next < top) : Turn K S (upd K S.next o) (S.new o) ∧ Low (S.new o) := by
  have hn : (S.new o).next = S.next + 1 := rfl
  have hg : ∀ j, (S.new o).heap.get j = if j = S.next then some o else S.heap.get j := fun j => by
    show (S.heap.set S.next o).get j = _; exact Tree.get_set o S.heap _ j hr
  refine ⟨⟨by omega, rfl, [], rfl, by simp, fun j => ?_⟩, fun j hj => ?_, by omega⟩
  · by_cases x : j = S.next
    · subst x; exact .inl ⟨.inr ⟨Nat.le_refl _, by omega⟩, by rw [upd_same, hg]; simp⟩
    · refine .inr ⟨by simp; omega, upd_ne K o x, by rw [hg, if_neg x]⟩
  · rw [hg, if_neg (by omega)]; exact hl.1 j (by omega)
theorem turn_putAll : ∀ {l : List Nat} {m : List TObj} {K : Kn} {S : TS}, Low S → (∀ i ∈ l, i < S.next ∧ S.vis i = true) → Turn K S (putAllK K l m) (putAll S l m) ∧ Low (putAll S l m) ∧ (putAll S l m).next = S.next
  | [], m, K, S, hl, _ => by simp only [putAll, putAllK]; exact ⟨Turn.refl K S, hl, trivial⟩
  | i :: l, [], K, S, hl, _ => by simp only [putAll, putAllK]; exact ⟨Turn.refl K S, hl, trivial⟩
  | i :: l, o :: m, K, S, hl, h => by
    obtain ⟨t1, t2⟩ := turn_put' (K := K) (o := o) hl (h i (by simp)).1 (h i (by simp)).2
    obtain ⟨t3, t4, t5⟩ := turn_putAll (l := l) (m := m) (K := upd K i o) t2 (fun j hj => h j (by simp [hj]))
    exact ⟨t1.trans t3, t4, t5⟩
theorem turn_newAll : ∀ {m : List TObj} {K : Kn} {S : TS}, Low S → S.next + m.length < top → Turn K S (newAllK K S.next m) (newAll S m) ∧ Low (newAll S m) ∧ (newAll S m).next = S.next + m.length
  | [], K, S, hl, _ => by simp only [newAll, newAllK]; exact ⟨Turn.refl K S, hl, rfl⟩
  | o :: m, K, S, hl, h => by
    simp only [List.length_cons] at h
    obtain ⟨t1, t2⟩ := turn_new' (K := K) (o := o) hl (by omega)
    have hn : (S.new o).next = S.next + 1 := rfl
    obtain ⟨t3, t4, t5⟩ := turn_newAll (m := m) (K := upd K S.next o) t2 (by omega)
    exact ⟨t1.trans t3, t4, by simp only [newAll, List.length_cons]; omega⟩

theorem renOs_spec {S : TS} {c : Nat} {s : List Nat} : ∀ {l : List Nat} {os : List TObj}, renOs S c s l = some os → os.length = l.length ∧ ∀ (n i : Nat), l[n]? = some i → ∃ o, os[n]? = some o ∧ renO c s (S.heap.get i) = some o
  | [], os, h => by simp only [renOs, Option.some.injEq] at h; subst h; simp
  | i :: l, os, h => by
    simp only [renOs] at h
    split at h
    · rename_i o r ho hr; cases h
      obtain ⟨h1, h2⟩ := renOs_spec hr
      refine ⟨by simp [h1], fun n j hn => ?_⟩
      cases n with
      | zero => simp at hn; subst hn; exact ⟨o, rfl, ho⟩
      | succ n => simp at hn; obtain ⟨o', q1, q2⟩ := h2 n j hn; exact ⟨o', by simpa using q1, q2⟩
    · cases h

theorem canon_ok {P : Program} {K K' : Kn} {β β' : Be} {w w' : World} {S0 : TS} {r : TV × TS} {a : Canon} {v : Value} (h0 : S0.wlog = []) (hat : At P K β w S0) (hc : canonOf S0.next r = some a)
    (st : Step P K β w S0 K' β' w' r.2) (hv : rel β' r.1 v) (htop : S0.next + a.newOs.length < top) :
    ∃ K'' β'', Step P K β w S0 K'' β'' w' (newAll (putAll S0 a.olds a.oldOs) a.newOs) ∧ rel β'' a.ret v := by
  unfold canonOf at hc
  simp only at hc
  generalize hsn : reach r.2 S0.next 2000 [] (idsV S0.next r.1 ++ (oldsOf S0.next r.2.wlog).flatMap fun i => idsO S0.next (r.2.heap.get i)) = seen at hc
  split at hc
  · rename_i ret os ns hret hos hns
    cases hc
    simp only at htop ⊢
    have hseen := reach_spec (S := r.2) (c := S0.next) 2000 (seen := []) (todo := idsV S0.next r.1 ++ (oldsOf S0.next r.2.wlog).flatMap fun i => idsO S0.next (r.2.heap.get i)) (by simp) (by simp) (fun i hi => by
      rcases List.mem_append.1 hi with hi | hi
      · exact idsV_ge hi
      · obtain ⟨j, _, hj⟩ := List.mem_flatMap.1 hi; exact idsO_ge hj)
    rw [hsn] at hseen
    obtain ⟨snd, sge⟩ := hseen
    obtain ⟨no1, no2⟩ := renOs_spec hos
    obtain ⟨nn1, nn2⟩ := renOs_spec hns
    have hond := nodup_of_lt (oldsOf_sorted (c := S0.next) r.2.wlog)
    -- what the run turned
    obtain ⟨d, hd, hdlt, hturn⟩ := st.turn.log
    rw [h0, List.append_nil] at hd
    have olds_iff : ∀ i, i ∈ oldsOf S0.next r.2.wlog ↔ i ∈ d ∧ i < S0.next := fun i => by rw [oldsOf_mem, hd]
    have turnIn : ∀ i, (i ∈ d ∨ (S0.next ≤ i ∧ i < r.2.next)) → K' i = r.2.heap.get i := fun i hi => by
      rcases hturn i with ⟨_, x⟩ | ⟨x, _⟩
      · exact x
      · exact absurd hi x
    have turnOut : ∀ i, i < S0.next → i ∉ oldsOf S0.next r.2.wlog → K' i = K i := fun i hi hn => by
      rcases hturn i with ⟨x, _⟩ | ⟨_, x, _⟩
      · rcases x with x | x
        · exact absurd ((olds_iff i).2 ⟨x, hi⟩) hn
        · omega
      · exact x
    -- the new numbers' places
    let β'' : Be := fun i => if i < S0.next then β' i else (seen[i - S0.next]?).bind β'
    have reb : ReB S0.next seen β' β'' := ⟨fun i hi => if_pos hi, fun n j hj => by
      show (if S0.next + n < S0.next then β' (S0.next + n) else (seen[S0.next + n - S0.next]?).bind β') = β' j
      rw [if_neg (by omega), show S0.next + n - S0.next = n by omega, hj]; rfl⟩
    have blt : ∀ i p, β i = some p → i < S0.next := fun i p hp => by
      rcases Nat.lt_or_ge i S0.next with x | x
      · exact x
      · rw [hat.free i x] at hp; cases hp
    have blow : ∀ i p, β i = some p → β'' i = β' i := fun i p hp => reb.1 i (blt i p hp)
    -- what is known
    obtain ⟨t1, t2, t3⟩ := turn_putAll (l := oldsOf S0.next r.2.wlog) (m := os) (K := K) hat.low (fun i hi => ⟨((olds_iff i).1 hi).2, (hdlt i ((olds_iff i).1 hi).1).2 ((olds_iff i).1 hi).2⟩)
    obtain ⟨t4, t5, t6⟩ := turn_newAll (m := ns) (K := putAllK K (oldsOf S0.next r.2.wlog) os) t2 (by rw [t3]; exact htop)
    rw [t3] at t4 t6
    let K'' : Kn := newAllK (putAllK K (oldsOf S0.next r.2.wlog) os) S0.next ns
    -- each object that is known comes from one that was known
    have src : ∀ i o, K'' i = some o → alive o → ∃ j o0, K' j = some o0 ∧ alive o0 ∧ β'' i = β' j ∧ (i < S0.next → j = i) ∧ (S0.next ≤ i → seen[i - S0.next]? = some j) ∧ (∀ p ob, objRel P β' p o0 ob → objRel P β'' p o ob) ∧
        (∀ m s l, o = .miter m s l → i < S0.next ∧ o0 = o ∧ K i = some o) ∧ (∀ kt es k, o = .map kt es k → ∃ es0, o0 = .map kt es0 k) := by
      intro i o hi ha
      have hi : newAllK (putAllK K (oldsOf S0.next r.2.wlog) os) S0.next ns i = some o := hi
      rw [newAllK_get] at hi
      split at hi
      · rename_i hc
        have hlt : i - S0.next < seen.length := by omega
        obtain ⟨o', q1, q2⟩ := nn2 (i - S0.next) seen[i - S0.next] (List.getElem?_eq_getElem hlt)
        rw [q1] at hi; cases hi
        obtain ⟨x, hx, ax, nx, mx⟩ := renO_alive q2 ha
        have hjge := sge _ (List.getElem_mem hlt)
        have hjlt : seen[i - S0.next] < r.2.next := by
          rcases Nat.lt_or_ge seen[i - S0.next] r.2.next with y | y
          · exact y
          · rw [st.low.1 _ y] at hx; cases hx
        refine ⟨seen[i - S0.next], x, (turnIn _ (.inr ⟨hjge, hjlt⟩)).trans hx, ax, ?_, fun y => by omega, fun _ => List.getElem?_eq_getElem hlt, fun p ob hob => ?_, fun m s l e => absurd e (nx m s l), mx⟩
        · have := reb.2 (i - S0.next) _ (List.getElem?_eq_getElem hlt)
          rw [show S0.next + (i - S0.next) = i by omega] at this; exact this
        · rw [hx] at q2; exact renO_rel reb q2 hob
      · rename_i hc
        by_cases hio : i ∈ oldsOf S0.next r.2.wlog
        · obtain ⟨n, hn⟩ := List.getElem?_of_mem hio
          obtain ⟨o', q1, q2⟩ := no2 n i hn
          rw [putAllK_in hond hn q1] at hi; cases hi
          obtain ⟨x, hx, ax, nx, mx⟩ := renO_alive q2 ha
          obtain ⟨hid, hilt⟩ := (olds_iff i).1 hio
          refine ⟨i, x, (turnIn i (.inl hid)).trans hx, ax, reb.1 i hilt, fun _ => rfl, fun y => by omega, fun p ob hob => ?_, fun m s l e => absurd e (nx m s l), mx⟩
          rw [hx] at q2; exact renO_rel reb q2 hob
        · rw [putAllK_out hio] at hi
          obtain ⟨p0, ob0, hp0, _, ho0⟩ := hat.rep.obj i o hi ha
          have hilt := blt i p0 hp0
          refine ⟨i, o, (turnOut i hilt hio).trans hi, ha, reb.1 i hilt, fun _ => rfl, fun y => by omega, fun p ob hob => objRel_low blow ho0 hob, fun m s l _ => ⟨hilt, rfl, hi⟩, fun kt es k e => ⟨es, e⟩⟩
    refine ⟨K'', β'', ⟨⟨fun i o hi ha => ?_, fun i j o o' p q hi hj ha ha' hne hp hq => ?_, fun r0 m since sn kt es clock hr hm => ?_⟩,
      ⟨st.ext.os, st.ext.tape, st.ext.output, st.ext.size, fun i p hp => ?_, fun i hn hs => ?_, fun i o p hi ha hp => ?_, st.ext.same⟩, t1.trans t4, t5⟩, renV_rel reb hret hv⟩
    · obtain ⟨j, o0, h1, h2, h3, _, _, h4, _⟩ := src i o hi ha
      obtain ⟨p, ob, hp, hb, ho⟩ := st.rep.obj j o0 h1 h2
      exact ⟨p, ob, h3.trans hp, hb, h4 p ob ho⟩
    · obtain ⟨i', oi, a1, a2, a3, a4, a5, _⟩ := src i o hi ha
      obtain ⟨j', oj, b1, b2, b3, b4, b5, _⟩ := src j o' hj ha'
      refine st.rep.sep i' j' oi oj p q a1 b1 a2 b2 (fun e => hne ?_) (a3.symm.trans hp) (b3.symm.trans hq)
      rcases Nat.lt_or_ge i S0.next with x | x <;> rcases Nat.lt_or_ge j S0.next with y | y
      · rw [← a4 x, ← b4 y, e]
      · have := sge j' (List.mem_of_getElem? (b5 y)); have := a4 x; omega
      · have := sge i' (List.mem_of_getElem? (a5 x)); have := b4 y; omega
      · have h1 := a5 x; have h2 := b5 y; rw [← e] at h2
        have : i - S0.next = j - S0.next := nodup_inj snd h1 h2
        omega
    · obtain ⟨r', or, a1, a2, a3, a4, _, _, a6, _⟩ := src r0 _ hr trivial
      obtain ⟨rlt, rfl, rK⟩ := a6 _ _ _ rfl
      have : r' = r0 := a4 rlt
      subst this
      obtain ⟨pr0, ob0, _, _, ho0⟩ := hat.rep.obj r' _ rK trivial
      obtain ⟨_, pm0, _, hpm0, _⟩ := ho0
      have mlt := blt m pm0 hpm0
      obtain ⟨m', om, b1, b2, b3, b4, _, _, _, b6⟩ := src m _ hm trivial
      have : m' = m := b4 mlt
      subst this
      obtain ⟨es0, rfl⟩ := b6 _ _ _ rfl
      obtain ⟨h1, h2⟩ := st.rep.iter r' m' since sn kt es0 clock a1 b1
      refine ⟨h1, fun hcl => ?_⟩
      obtain ⟨pr, pm, Sn, E, c1, c2, c3⟩ := h2 hcl
      exact ⟨pr, pm, Sn, E, a3.trans c1, b3.trans c2, c3⟩
    · exact (blow i p hp).trans (st.ext.sub i p hp)
    · rw [t6]
      rcases Nat.lt_or_ge i S0.next with x | x
      · have : β'' i = β' i := reb.1 i x
        rw [this] at hs
        have := st.ext.dom i hn hs; omega
      · refine ⟨x, ?_⟩
        have hs' : (if i < S0.next then β' i else (seen[i - S0.next]?).bind β') ≠ none := hs
        rw [if_neg (by omega)] at hs'
        cases hq : seen[i - S0.next]? with
        | none => rw [hq] at hs'; exact absurd rfl hs'
        | some j => have := (List.getElem?_eq_some_iff.1 hq).1; omega
    · obtain ⟨j, o0, h1, h2, h3, _⟩ := src i o hi ha
      exact st.ext.img j o0 p h1 h2 (h3.symm.trans hp)
  · cases hc

/-- One of the outcomes made one comes about. -/
theorem merge_ok {P : Program} {K K' : Kn} {β β' : Be} {w w' : World} {S0 : TS} {m : M (TV × TS)} {l0 l : List (TV × TS)} {r : TV × TS} {v : Value} (h0 : S0.wlog = []) (hat : At P K β w S0) (hm0 : m = some l0) (hm : merge S0 m = some l)
    (hr : r ∈ l0) (st : Step P K β w S0 K' β' w' r.2) (hv : rel β' r.1 v) : ∃ q ∈ l, ∃ K'' β'', Step P K β w S0 K'' β'' w' q.2 ∧ rel β'' q.1 v := by
  subst hm0
  unfold merge at hm
  cases l0 with
  | nil => simp at hr
  | cons r0 rest =>
    cases rest with
    | nil =>
      simp only [Option.some.injEq] at hm; subst hm
      simp at hr; subst hr
      exact ⟨r, by simp, K', β', st, hv⟩
    | cons r1 rest =>
      simp only at hm
      split at hm
      · cases hm; exact ⟨r, hr, K', β', st, hv⟩
      · rename_i a ha
        split at hm
        · rename_i hcond
          simp only [Bool.and_eq_true, blt_iff] at hcond
          obtain ⟨hall, htop⟩ := hcond
          cases hm
          have alike : ∀ {ls : List (TV × TS)}, canonsEq S0.next a ls = true → ∀ q ∈ ls, canonOf S0.next q = some a := by
            intro ls
            induction ls with
            | nil => intro _ q hq; simp at hq
            | cons x xs ih =>
              intro h q hq
              simp only [canonsEq] at h
              split at h
              · rename_i b hb
                simp only [Bool.and_eq_true] at h
                rcases List.mem_cons.1 hq with rfl | hq
                · rw [hb, Canon.beq_eq h.1]
                · exact ih h.2 q hq
              · cases h
          have hcr : canonOf S0.next r = some a := by
            rcases List.mem_cons.1 hr with rfl | hr
            · exact ha
            · exact alike hall r hr
          obtain ⟨K'', β'', h1, h2⟩ := canon_ok h0 hat hcr st hv htop
          exact ⟨_, List.mem_singleton.2 rfl, K'', β'', h1, h2⟩
        · cases hm; exact ⟨r, hr, K', β', st, hv⟩
end Go.TX

/-
Calls of functions.
-/
namespace Go.TX
section
variable {E : Env} {ex : Ex} {K K' : Kn} {β β' : Be} {w w' : World} {S : TS}

theorem At.nolog {P : Program} (h : At P K β w S) : At P K β w { S with wlog := [] } := ⟨h.sup, h.rep, h.low, h.free⟩
theorem Step.relog {P : Program} {S' : TS} (h : Step P K β w { S with wlog := [] } K' β' w' S') : Step P K β w S K' β' w' { S' with wlog := S'.wlog ++ S.wlog } := by
  obtain ⟨h1, h2, ⟨n, f, d, l, b, g⟩, h4⟩ := h
  exact ⟨h1, h2, ⟨n, f, d, by simp only [List.append_nil] at l; simp only [l], b, g⟩, h4⟩

theorem step_below {P : Program} (hat : At P K β w S) (hb : Go.RowKit.Below w.heap.size w w') : Step P K β w S K β w' S := by
  have keep : ∀ (b : Nat) (o : Obj), w.heap[b]? = some o → w'.heap[b]? = some o := fun b o h => (hb.block b (lt_of_get h)).trans h
  refine ⟨⟨fun i o e a => ?_, hat.rep.sep, fun r m since seen kt es clock e e' => ?_⟩, ⟨hb.os, hb.tape, hb.output, hb.size, Sub.refl β, fun i x y => absurd x y, fun i o p e a hp => .inr ⟨i, o, p, e, a, hp, rfl⟩, fun b hlt _ => hb.block b hlt⟩, Turn.refl K S, hat.low⟩
  · obtain ⟨p, ob, h1, h2, h3⟩ := hat.rep.obj i o e a; exact ⟨p, ob, h1, keep _ _ h2, h3⟩
  · obtain ⟨h1, h2⟩ := hat.rep.iter r m since seen kt es clock e e'
    refine ⟨h1, fun hcl => ?_⟩
    obtain ⟨pr, pm, Sn, E, a1, a2, a3, a4, a5⟩ := h2 hcl
    exact ⟨pr, pm, Sn, E, a1, a2, keep _ _ a3, keep _ _ a4, a5⟩

theorem callFunc_enter (hy : Hyp E) {f : FuncId} {fn : Func} {c : Code} (hf : E.P.funcs[f]? = some fn) (hb : fn.body = some c) (vs : Array Value) (w : World) : (callFunc f vs).run E.P w = .ok (.enter f vs) w := by
  have hn := hy.names f fn hf (by rw [hb]; rfl)
  simp only [callFunc, program, Sem.run_bind, Sem.run, Result.andThen, hf, hn, Bool.false_eq_true, if_false, hb, Option.isNone]
  rfl

theorem wide_calls {F : Fence} {m : Nat} {f : FuncId} {vs : Array Value} {R : Ending → World → Prop} (hF : Wide F) (h : CallsIn Fence.wide m E.P f vs w R) : CallsIn F m E.P f vs w R := by
  rcases hF with rfl | ⟨l, rfl⟩
  · exact h
  · exact h

/-- The contract of a call, merged. -/
theorem callM_ok (hy : Hyp E) (hex : CodeOk E ex) {F : Fence} {m : Nat} {f : FuncId} {args : List TV} {vs : Array Value} {l : List (TV × TS)} {o : Oper} {a : Act} {next : Act → World → Prop} {Q : Exit → Act → World → Prop} (hF : Wide F)
    (h : callM E ex f args S = some l) (hat : At E.P K β w S) (hr : rels β args vs.toList)
    (hnext : ∀ q ∈ l, ∀ K' β' w' v, Step E.P K β w S K' β' w' q.2 → rel β' q.1 v → next (a.put o.dst v) w') : o.uponIn F m E.P a next Q ((callFunc f vs).run E.P w) := by
  unfold callM at h
  simp only [setLog_eq, addLog_eq] at h
  split at h
  · cases h
  · rename_i lm hm
    cases h
    have hat0 := hat.nolog
    -- an outcome of the call, merged and told on
    have fin : ∀ {l0 : List (TV × TS)} {r : TV × TS} {K' : Kn} {β' : Be} {w' : World} {v : Value}, callT E ex f args { S with wlog := [] } = some l0 → r ∈ l0 → Step E.P K β w { S with wlog := [] } K' β' w' r.2 → rel β' r.1 v → next (a.put o.dst v) w' := by
      intro l0 r K' β' w' v hl0 hrm st hv
      obtain ⟨q, hq, K'', β'', st', hv'⟩ := merge_ok rfl hat0 hl0 hm hrm st hv
      exact hnext _ (List.mem_map.2 ⟨q, hq, rfl⟩) K'' β'' w' v st'.relog hv'
    cases hct : callT E ex f args { S with wlog := [] } with
    | none => rw [hct] at hm; simp [merge] at hm
    | some l0 =>
      have hct' := hct
      unfold callT at hct
      split at hct
      · rename_i htr
        simp only [M.one, Option.some.injEq] at hct; subst hct
        obtain ⟨⟨fn, c, hf, hb⟩, hcalls⟩ := hy.tr f ((memN_iff f E.tr).1 htr)
        rw [rels_nil] at hr
        have : vs = #[] := Array.ext' hr
        subst this
        rw [callFunc_enter hy hf hb, Oper.uponIn_enter]
        refine ⟨by rw [wide_depth hF]; simp, wide_calls hF (callsIn_wide.2 ((hcalls w).mono ?_))⟩
        rintro e w' ⟨rfl, hbel⟩
        exact fin hct' (List.mem_singleton.2 rfl) (step_below hat0 hbel) (by simp only [rel])
      · split at hct
        · cases hct
        · rename_i fn hf
          rw [Array.getElem?_toList] at hf
          split at hct
          · rename_i hb
            -- maps.clone
            unfold cloneT at hct
            split at hct
            · cases hct
            · rename_i g hg
              split at hct
              · rename_i t i hfg hroom _
                have hfg := (beq_iff _ _).1 hfg; subst hfg
                split at hct
                · rename_i kt es clock hget
                  simp only [M.one, Option.some.injEq] at hct; subst hct
                  rw [rels_cons] at hr; obtain ⟨v, r, ev, hv, hr⟩ := hr
                  rw [rels_nil] at hr; subst hr
                  simp only [rel] at hv; obtain ⟨u, rfl, p, hp, rfl⟩ := hv
                  have : vs = #[.iface t (.map (some p.b))] := Array.ext' ev
                  subst this
                  have hk := hat0.sup i _ hget
                  obtain ⟨Em, hE, hmr⟩ := map_obj hat0.rep hk hp
                  have hn : β S.next = none := hat.free _ (Nat.le_refl _)
                  obtain ⟨t1, t2⟩ := turn_new (K := K) (o := .map kt es clock) hat0.low hroom
                  obtain ⟨r1, r2⟩ := rep_new (sh := 0) (sz := 0) (o := .map kt es clock) (ob := .map Em clock) hat0.rep hn ⟨Em, rfl, hmr.mono (Sub.updB _ hn)⟩ (fun m since seen kt es clock e => by cases e)
                  rw [hy.clone f hg fn hf hb]
                  have hrun : ((do pure (.value (← Extern.MapsClone.clone #[.iface t (.map (some p.b))])) : Sem Next)).run E.P w = .ok (.value (.iface t (.map (some w.heap.size)))) (push w (.map Em clock)) := by
                    have e : Extern.MapsClone.clone #[.iface t (.map (some p.b))] = (do
                        let .map entries clock ← getObj p.b | stuck "maps.clone: a map expected"
                        pure (.iface t (.map (some (← newObj (.map entries clock))))) : Sem Value) := rfl
                    rw [e]
                    simp only [Sem.run_bind, run_getMap hE, Result.andThen_ok, run_newObj', Sem.run_pure]
                  rw [hrun, Oper.uponIn_value]
                  exact fin hct' (List.mem_singleton.2 rfl) ⟨r1, r2, t1, t2⟩ (by simp only [rel]; exact ⟨_, rfl, _, updB_same _ _ _, rfl⟩)
                · cases hct
              · cases hct
          · rename_i body hb
            rw [callFunc_enter hy hf hb, Oper.uponIn_enter]
            refine ⟨by rw [wide_depth hF]; simp, wide_calls hF (CallsIn.mono (bodyT_ok hex (m := m - 1) hf hb hct hat0 hr) ?_)⟩
            rintro e w' ⟨q, hq, K', β', v, rfl, hv, st⟩
            exact fin hct' hq st hv
end
end Go.TX

/-
Ranges over functions: rounds (yield), the statement.
-/
namespace Go.TX
section
variable {E : Env} {ex : Ex} {K K' : Kn} {β β' : Be} {w w' : World} {S : TS}

theorem loop_obj {P : Program} {i : Nat} {st : LoopState} {pe : Option Code} {nt : Nat} {tm : Tm} {ps : Array Tmp} {as bd : Code} {d : Nat} (hrep : Rep P K β w) (hk : K i = some (.loop st pe nt tm ps as bd d)) {p : Pl} (hp : β i = some p) :
    ∃ fn T pd, β d = some pd ∧ tmRel β nt tm T ∧ w.heap[p.b]? = some (.loop { state := st, pending := pe, fn, tmps := T, params := ps, assign := as, body := bd, defers := pd.b }) := by
  obtain ⟨p', ob, hp', hb, ho⟩ := hrep.obj i _ hk trivial
  rw [hp] at hp'; cases hp'
  obtain ⟨fn, T, pd, h1, h2, rfl⟩ := ho
  exact ⟨fn, T, pd, h1, h2, hb⟩

theorem run_getLoop {P : Program} {b : Nat} {r : Loop} (h : w.heap[b]? = some (.loop r)) : (Instr.getLoop b).run P w = .ok r w := by
  simp [Instr.getLoop, getObj, Sem.run, h]
theorem run_setLoop {P : Program} {b : Nat} {r : Loop} (h : w.heap[b]? = some (.loop r)) (o : Obj) : (setObj b o).run P w = .ok () (setO w b o) := by simp [setObj, Sem.run, h, setO]

/-- A loop's record is turned. -/
theorem step_loop {P : Program} {i : Nat} {st st' : LoopState} {pe pe' : Option Code} {nt : Nat} {tm : Tm} {ps : Array Tmp} {as bd : Code} {d : Nat} (hat : At P K β w S) (hg : S.get i = some (.loop st pe nt tm ps as bd d)) {p : Pl} (hp : β i = some p) :
    ∃ r : Loop, r.state = st ∧ r.pending = pe ∧ w.heap[p.b]? = some (.loop r) ∧ Step P K β w S (upd K i (.loop st' pe' nt tm ps as bd d)) β (setO w p.b (.loop { r with state := st', pending := pe' })) (S.put i (.loop st' pe' nt tm ps as bd d)) := by
  have hk := hat.sup i _ hg
  obtain ⟨fn, T, pd, h1, h2, h3⟩ := loop_obj hat.rep hk hp
  obtain ⟨r1, r2⟩ := rep_put_plain (o' := .loop st' pe' nt tm ps as bd d) (ob' := .loop { state := st', pending := pe', fn, tmps := T, params := ps, assign := as, body := bd, defers := pd.b }) hat.rep hk trivial hp ⟨fn, T, pd, h1, h2, rfl⟩ trivial
  obtain ⟨t1, t2⟩ := turn_put (K := K) (o := .loop st' pe' nt tm ps as bd d) hat.low hg
  exact ⟨_, rfl, rfl, h3, r1, r2 _ _, t1, t2⟩

theorem layAt_rel {nt : Nat} : ∀ {ps : List Tmp} {args : List TV} {tm tm1 : Tm} {T : Array Value} {vs : List Value}, layAt ps args nt tm = some tm1 → tmRel β nt tm T → rels β args vs →
    ps.length = vs.length ∧ tmRel β nt tm1 ((ps.zip vs).foldl (fun T (t, a) => T.setIfInBounds t a) T)
  | [], [], tm, tm1, T, vs, h, ht, hr => by
    simp only [layAt, Option.some.injEq] at h; subst h
    rw [rels_nil] at hr; subst hr; exact ⟨rfl, ht⟩
  | [], _ :: _, _, _, _, _, h, _, _ => by simp [layAt] at h
  | _ :: _, [], _, _, _, _, h, _, _ => by simp [layAt] at h
  | t :: ps, x :: args, tm, tm1, T, vs, h, ht, hr => by
    rw [rels_cons] at hr; obtain ⟨v, us, rfl, h1, h2⟩ := hr
    simp only [layAt] at h
    split at h
    · rename_i hc
      have hput := tmRel_put (a := { tmps := T, defers := [] }) (d := some t) (v := x) (V := v) (tm' := tm.set t x) (by simp only [putT, hc]) ht h1
      obtain ⟨g1, g2⟩ := layAt_rel h hput h2
      exact ⟨by simp [g1], g2⟩
    · cases h

theorem wide_round {F : Fence} (h : Wide F) (l : Nat) : Wide (F.inRound l) := by
  rcases h with rfl | ⟨_, rfl⟩
  · exact .inr ⟨l, rfl⟩
  · exact .inr ⟨l, rfl⟩

theorem yield_ok (hex : CodeOk E ex) {F : Fence} {m : Nat} {i : Nat} {args : List TV} {vs : Array Value} {l : List (TV × TS)} {o : Oper} {a : Act} {next : Act → World → Prop} {Q : Exit → Act → World → Prop} (hF : Wide F)
    (h : yieldT ex i args S = some l) (hat : At E.P K β w S) (hr : rels β args vs.toList) {p : Pl} (hp : β i = some p)
    (hnext : ∀ q ∈ l, ∀ K' β' w' v, Step E.P K β w S K' β' w' q.2 → rel β' q.1 v → next (a.put o.dst v) w') : o.uponIn F m E.P a next Q ((Instr.yield p.b vs).run E.P w) := by
  unfold yieldT at h
  split at h
  · rename_i pe nt tm ps as bd d hg
    split at h
    · cases h
    · rename_i tm1 hlay
      obtain ⟨fn, T, pd, _, hT, hobj⟩ := loop_obj hat.rep (hat.sup i _ hg) hp
      obtain ⟨hlen, hT1⟩ := layAt_rel hlay hT hr
      have hsz : vs.size = ps.size := by simpa using hlen.symm
      have hrun : (Instr.yield p.b vs).run E.P w = .ok (.round p.b fn ((ps.zip vs).foldl (fun T (t, a) => T.setIfInBounds t a) T) as bd) w := by
        simp only [Instr.yield, Sem.run_bind, run_getLoop hobj, Result.andThen_ok, hsz, ne_eq, not_true, if_false, Sem.run_pure]
      have hT1 : tmRel β nt tm1 ((ps.zip vs).foldl (fun T (t, a) => T.setIfInBounds t a) T) := by
        rw [← Array.foldl_toList, Array.toList_zip]; exact hT1
      rw [hrun, Oper.uponIn_round]
      refine ⟨by rw [wide_depth hF]; simp, roundIn_of_wpIn (wide_fn hF fn) ?_⟩
      obtain ⟨l1, h1, h2⟩ := bind_some h
      refine wpIn_mono (hex (F.inRound p.b) (m - 1) nt as tm1 S l1 K β w { tmps := _, defers := [] } (wide_round hF _) h1 hat hT1) fun e a1 w1 hpst => ?_
      obtain ⟨r, hrm, K1, β1, e1, st1, ht1, hd1⟩ := hpst
      obtain ⟨lr, hlr, hsub⟩ := h2 r hrm
      split at hlr
      · rename_i pe' nt' tm' ps' as' bd' d' hre hrd hrg
        rw [hre] at e1; simp only [exitRel] at e1; subst e1
        have hp1 : β1 i = some p := st1.ext.sub i p hp
        have hat1 := st1.at hat
        obtain ⟨rc, s1, s2, hb1, st2⟩ := step_loop (st' := .busy) (pe' := pe') hat1 hrg hp1
        refine ⟨setO w1 p.b (.loop { rc with state := .busy, pending := pe' }), ?_, ?_⟩
        · simp only [Instr.beginRound, Sem.run_bind, run_getLoop hb1, Result.andThen_ok, run_setLoop hb1, s1, ← s2, Sem.run_pure]
        · obtain ⟨l2, h3, h4⟩ := bind_some hlr
          refine wpIn_mono (hex (F.inRound p.b) (m - 1) nt bd r.tm _ l2 _ β1 _ a1 (wide_round hF _) h3 (st2.at hat1) ht1) fun e a2 w2 hpst2 => ?_
          obtain ⟨q, hqm, K2, β2, e2, st3, ht2, hd2⟩ := hpst2
          obtain ⟨lq, hlq, hsub2⟩ := h4 q hqm
          split at hlq
          · rename_i pe2 nt2 tm2 ps2 as2 bd2 d2 hqd hqg
            have hat2 := st3.at (st2.at hat1)
            have hp2 : β2 i = some p := st3.ext.sub i p hp1
            -- the round's end
            have ends : ∀ (jump : Option Code) (b : Bool) (st' : LoopState), b = jump.isNone → st' = (if jump.isNone then LoopState.ready else .done) → lq = [(.bool b, q.S.put i (.loop st' jump nt2 tm2 ps2 as2 bd2 d2))] →
                ∃ v w', (Instr.endRound p.b jump).run E.P w2 = .ok v w' ∧ (match (Ending.returned v) with | .returned v => next (a.put o.dst v) w' | .panicked chain => Q (.panic chain) a w' | .outgrown => LetsOut Q) := by
              intro jump b st' hb hst hl
              obtain ⟨rc2, _, _, hb2, st4⟩ := step_loop (st' := st') (pe' := jump) hat2 hqg hp2
              refine ⟨.bool b, setO w2 p.b (.loop { rc2 with state := st', pending := jump }), ?_, ?_⟩
              · simp only [Instr.endRound, Sem.run_bind, run_getLoop hb2, Result.andThen_ok, run_setLoop hb2, Sem.run_pure, hb, hst]
              · exact hnext _ (hsub _ (hsub2 _ (by rw [hl]; exact List.mem_singleton.2 rfl))) _ β2 _ _ (((st1.trans st2).trans st3).trans st4) (by simp only [rel])
            cases hqe : q.e with
            | normal =>
              rw [hqe] at e2 hlq; simp only [exitRel] at e2; subst e2
              simp only [jumpOf, M.one, Option.some.injEq] at hlq
              exact ends none true .ready rfl rfl hlq.symm
            | ret =>
              rw [hqe] at e2 hlq; simp only [exitRel] at e2; subst e2
              simp only [jumpOf, M.one, Option.some.injEq] at hlq
              exact ends (some .ret) false .done rfl rfl hlq.symm
            | exit j =>
              rw [hqe] at e2 hlq; simp only [exitRel] at e2; subst e2
              simp only [jumpOf, M.one, Option.some.injEq] at hlq
              exact ends (some (.exit j)) false .done rfl rfl hlq.symm
            | goto j =>
              rw [hqe] at e2 hlq; simp only [exitRel] at e2; subst e2
              simp only [jumpOf, M.one, Option.some.injEq] at hlq
              exact ends (some (.goto j)) false .done rfl rfl hlq.symm
          · cases hlq
      · cases hlr
  · cases h
end
end Go.TX

/-
Every operation; the statement that ranges over a function.
-/
namespace Go.TX
section
variable {E : Env} {ex : Ex} {K K' : Kn} {β β' : Be} {w w' : World} {S : TS}

theorem operOk (hy : Hyp E) (hex : CodeOk E ex) : OperOk E ex := by
  intro F m S tm nt o l K β w a next Q hF h hat ht hnext
  cases hc : isCall o.op with
  | false => exact plain_oper hF hc h hat.rep hat.low (hat.sup.looks _) (fun q _ => hat.free.free _) ht hnext
  | true =>
    refine ⟨fun f _ => wide_fn hF f, ?_⟩
    cases ho : o.op <;> rw [ho] at hc <;> simp only [isCall] at hc <;> first | (cases hc; done) | skip
    rename_i c
    cases hcc : c.callee with
    | builtin b => rw [hcc] at hc; cases hc
    | invoke r n => unfold runOp at h; rw [ho] at h; simp [opFn, xCall, hcc, xCallee] at h
    | value f =>
      rw [Oper.semAt_eq _ _ _ (fun c' e => by rw [ho] at e; cases e)]
      unfold runOp at h; rw [ho] at h; simp only [opFn, xCall, hcc, xCallee] at h
      have hargs : rels β (evs tm c.args.toList) (c.args.map a.eval).toList := by
        rw [Array.toList_map]; exact evs_rel (a := a.eval) (fun x _ => ev_rel ht x)
      have hfv := ev_rel ht f
      unfold applyT at h
      split at h
      · rename_i g first cap e
        rw [e] at hfv; simp only [rel] at hfv; obtain ⟨A, B, hv, h1, h2⟩ := hfv
        have hrun : (execOp a.eval o).run E.P w = (callFunc g (A ++ c.args.map a.eval ++ B)).run E.P w := by
          simp only [execOp, ho, resolve, hcc, hv, Deferred.ofValue, pure_bind, invoke]
        rw [hrun]
        refine callM_ok hy hex hF h hat ?_ hnext
        rw [Array.toList_append, Array.toList_append, List.append_assoc]
        exact rels_append h1 (rels_append hargs h2)
      · rename_i i e
        rw [e] at hfv; simp only [rel] at hfv; obtain ⟨p, hp, hv⟩ := hfv
        have hrun : (execOp a.eval o).run E.P w = (Instr.yield p.b (#[] ++ c.args.map a.eval)).run E.P w := by
          simp only [execOp, ho, resolve, hcc, hv, Deferred.ofValue, pure_bind, invoke]
        rw [hrun, Array.empty_append]
        exact yield_ok hex hF h hat hargs hp hnext
      · cases h

/-- 'for .. := range g'. -/
theorem range_ok (hy : Hyp E) (hex : CodeOk E ex) {F : Fence} {m nt : Nat} {f : Operand} {ps : Array Tmp} {as bd : Code} {tm : Tm} {outs : List Out} {a : Act} (hF : Wide F)
    (h : sRange f ps as bd E ex F.round.isSome nt tm S = some outs) (hat : At E.P K β w S) (ht : tmRel β nt tm a.tmps) :
    (Code.rangeFunc f ps as bd).wpIn F m E.P (Post E.P nt outs K β w S a.defers) a w := by
  unfold sRange at h
  split at h
  · rename_i g first cap hrd hev hroom
    have hro : F.round = none := by cases hq : F.round with
      | none => rfl
      | some l => rw [hq] at hrd; cases hrd
    simp only [Bool.and_eq_true] at hroom
    obtain ⟨room1, room2⟩ := hroom
    have hfv := ev_rel ht f
    rw [hev] at hfv; simp only [rel] at hfv; obtain ⟨A, B, hv, hA, hB⟩ := hfv
    refine wpIn_rangeFunc fun fn _ => ?_
    rw [hro]
    -- the two blocks
    have n1 : β S.next = none := hat.free _ (Nat.le_refl _)
    obtain ⟨r1, x1⟩ := rep_new (sh := 0) (sz := 0) (o := .dfr) (ob := .deferred (some [])) hat.rep n1 rfl (fun _ _ _ _ _ _ e => by cases e)
    obtain ⟨t1, l1⟩ := turn_new (K := K) (o := .dfr) hat.low room1
    have st1 : Step E.P K β w S (upd K S.next .dfr) (updB β S.next ⟨w.heap.size, 0, 0⟩) (push w (.deferred (some []))) (S.new .dfr) := ⟨r1, x1, t1, l1⟩
    have hat1 := st1.at hat
    have nx1 : (S.new .dfr).next = S.next + 1 := rfl
    have n2 : (updB β S.next ⟨w.heap.size, 0, 0⟩) (S.new .dfr).next = none := hat1.free _ (Nat.le_refl _)
    have hd1 : (updB β S.next ⟨w.heap.size, 0, 0⟩) S.next = some ⟨w.heap.size, 0, 0⟩ := updB_same _ _ _
    have sz1 : (push w (.deferred (some []))).heap.size = w.heap.size + 1 := by simp [push]
    let rec0 : Loop := { state := .ready, pending := none, fn := fn, tmps := a.tmps, params := ps, assign := as, body := bd, defers := w.heap.size }
    obtain ⟨r2, x2⟩ := rep_new (sh := 0) (sz := 0) (o := .loop .ready none nt tm ps as bd S.next) (ob := .loop rec0) hat1.rep n2
      ⟨fn, a.tmps, ⟨w.heap.size, 0, 0⟩, Sub.updB _ n2 _ _ hd1, (ht.mono st1.ext.sub).mono (Sub.updB _ n2), rfl⟩ (fun _ _ _ _ _ _ e => by cases e)
    obtain ⟨t2, l2⟩ := turn_new (K := upd K S.next .dfr) (o := .loop .ready none nt tm ps as bd S.next) l1 room2
    have st2 := st1.trans (⟨r2, x2, t2, l2⟩ : Step E.P _ _ _ (S.new .dfr) _ _ _ _)
    have hat2 := st2.at hat
    have hsub2 := st2.ext.sub
    obtain ⟨lc, hlc, hends⟩ := bind_some h
    have hloc : ∀ x, (updB (updB β S.next ⟨w.heap.size, 0, 0⟩) (S.new .dfr).next ⟨(push w (.deferred (some []))).heap.size, 0, 0⟩) x = (updB (updB β S.next ⟨w.heap.size, 0, 0⟩) (S.new .dfr).next ⟨(push w (.deferred (some []))).heap.size, 0, 0⟩) x := fun _ => rfl
    have hy1 : (updB (updB β S.next ⟨w.heap.size, 0, 0⟩) (S.new .dfr).next ⟨(push w (.deferred (some []))).heap.size, 0, 0⟩) (S.next + 1) = some ⟨(push w (.deferred (some []))).heap.size, 0, 0⟩ := updB_same _ _ _
    -- the call
    unfold callU at hlc
    simp only [setLog_eq, addLog_eq] at hlc
    split at hlc
    · cases hlc
    · rename_i l0 hct
      cases hlc
      unfold callT at hct
      split at hct
      · rename_i _ e; simp at e
      · split at hct
        · cases hct
        · rename_i fg hfg
          rw [Array.getElem?_toList] at hfg
          split at hct
          · rename_i hb
            unfold cloneT at hct
            split at hct
            · cases hct
            · split at hct
              · rename_i _ e _
                exfalso
                cases first with
                | nil => simp at e
                | cons x xs => cases xs <;> simp at e
              · cases hct
          · rename_i body hb
            have hargs : rels (updB (updB β S.next ⟨w.heap.size, 0, 0⟩) (S.new .dfr).next ⟨(push w (.deferred (some []))).heap.size, 0, 0⟩) (first ++ (.yld (S.next + 1) :: cap)) (A ++ #[Value.func (.yield (w.heap.size + 1)) #[] #[]] ++ B).toList := by
              rw [Array.toList_append, Array.toList_append, List.append_assoc]
              refine rels_append (rels_mono hsub2 _ _ hA) ?_
              show rels _ _ (Value.func (.yield (w.heap.size + 1)) #[] #[] :: B.toList)
              rw [rels_cons]
              exact ⟨_, _, rfl, by simp only [rel]; exact ⟨_, hy1, by rw [sz1]⟩, rels_mono hsub2 _ _ hB⟩
            have hcall := bodyT_ok hex (m := m - 1) hfg hb hct hat2.nolog hargs
            refine ⟨w.heap.size + 1, [{ target := .collected w.heap.size, args := #[] }], push (push w (.deferred (some []))) (.loop rec0), { target := .fn (.func g) B, args := A ++ #[Value.func (.yield (w.heap.size + 1)) #[] #[]] }, push (push w (.deferred (some []))) (.loop rec0), g, A ++ #[Value.func (.yield (w.heap.size + 1)) #[] #[]] ++ B, push (push w (.deferred (some []))) (.loop rec0), ?_, ?_, fun f' _ => wide_fn hF f', ?_, by rw [wide_depth hF]; simp, wide_calls hF (CallsIn.mono hcall ?_)⟩
            · simp only [Instr.enterLoop, Sem.run_bind, run_newObj', Result.andThen_ok, Sem.run_pure, sz1]
              rfl
            · simp only [resolve, hv, Deferred.ofValue, Sem.run_pure]
              simp [Act.eval]
            · simp only [invoke]
              exact callFunc_enter hy hfg hb _ _
            · rintro e w3 ⟨q, hq, K3, β3, v, rfl, hvq, st3⟩
              have st3' := st3.relog
              obtain ⟨le, hle, hsube⟩ := hends _ (List.mem_map.2 ⟨q, hq, rfl⟩)
              have hat3 := st3'.at hat2
              have stAll := st2.trans st3'
              have hp3 : β3 (S.next + 1) = some ⟨w.heap.size + 1, 0, 0⟩ := by rw [← sz1]; exact st3.ext.sub _ _ hy1
              have hd3 : β3 S.next = some ⟨w.heap.size, 0, 0⟩ := st3.ext.sub _ _ (Sub.updB _ n2 _ _ hd1)
              unfold endT at hle
              split at hle
              · rename_i st pe nt' tm' ps' as' bd' d' hget
                have fin : ∀ (st' : LoopState), st' = st → st ≠ .busy → ∀ (e : TExit), le = [⟨e, tm, [S.next], ({ q.2 with wlog := q.2.wlog ++ ((S.new .dfr).new (.loop .ready none nt tm ps as bd S.next)).wlog } : TS).put (S.next + 1) (.loop .exhausted pe nt' tm' ps' as' bd' d')⟩] →
                    ((e = .normal ∧ pe = none) ∨ (e = .ret ∧ pe = some .ret) ∨ ∃ i, e = .exit i ∧ pe = some (.exit i)) →
                    rangePost F m E.P (w.heap.size + 1) (Post E.P nt outs K β w S a.defers) { a with defers := [{ target := .collected w.heap.size, args := #[] }] ++ a.defers } (.returned v) w3 := by
                  intro st' _ hnb e hl hcase
                  obtain ⟨rc, s1, s2, hb3, st4⟩ := step_loop (st' := .exhausted) (pe' := pe) hat3 hget hp3
                  have hpost : ∀ x, exitRel e x → Post E.P nt outs K β w S a.defers x { a with defers := [{ target := .collected w.heap.size, args := #[] }] ++ a.defers } (setO w3 (w.heap.size + 1) (.loop { rc with state := .exhausted, pending := pe })) := fun x hx =>
                    ⟨_, hsube _ (by rw [hl]; exact List.mem_singleton.2 rfl), _, β3, hx, stAll.trans st4, ht.mono stAll.ext.sub, (show Defs β3 [S.next] a.defers ([{ target := .collected w.heap.size, args := #[] }] ++ a.defers) from ⟨_, a.defers, hd3, rfl, rfl⟩)⟩
                  refine ⟨pe, setO w3 (w.heap.size + 1) (.loop { rc with state := .exhausted, pending := pe }), ?_, ?_⟩
                  · have : (rc.state == LoopState.busy) = false := by
                      rw [s1]; cases st <;> first | exact absurd rfl hnb | rfl
                    simp only [Instr.endLoop, Sem.run_bind, run_getLoop hb3, Result.andThen_ok, this, Bool.false_eq_true, if_false, run_setLoop hb3, ← s2, Sem.run_pure]
                  · rcases hcase with ⟨rfl, rfl⟩ | ⟨rfl, rfl⟩ | ⟨i, rfl, rfl⟩
                    · exact hpost .normal rfl
                    · exact wpIn_ret (hpost .ret rfl)
                    · exact wpIn_exit (hpost (.exit i) rfl)
                split at hle
                · cases hle
                · rename_i hnb
                  split at hle
                  · simp only [M.one, Option.some.injEq] at hle
                    exact fin _ rfl (fun e => hnb e) .normal hle.symm (.inl ⟨rfl, rfl⟩)
                  · simp only [M.one, Option.some.injEq] at hle
                    exact fin _ rfl (fun e => hnb e) .ret hle.symm (.inr (.inl ⟨rfl, rfl⟩))
                  · rename_i i
                    simp only [M.one, Option.some.injEq] at hle
                    exact fin _ rfl (fun e => hnb e) (.exit i) hle.symm (.inr (.inr ⟨i, rfl, rfl⟩))
                  · cases hle
              · cases hle
  · cases h
end
end Go.TX
