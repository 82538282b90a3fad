/-
What every law of layer 17 begins with: the closed sentences of the layers below, run.
-/
import Derived.Test.YtelkghkaalmhoaaGreatDoorTc
import Derived.Test.YtelkghkaalmhoaaGreatDoorRows
namespace Go.Proofs.YtelkghkaalmhoaaGreatDoor
open Go Go.TX
set_option maxRecDepth 1000000

noncomputable def EE (tr : List FuncId) : Env := { P := Tryz.prog, cl := some 237, tr := tr }

theorem mixed : Tryz.prog.follows .mixedOrders = true := by kernel_rfl
theorem noGo : (Tryz.prog.funcs.toList.all fun fn => fn.body.isNone || !(fn.name == "runtime.NumGoroutine")) = true := by kernel_rfl
theorem cl_body : Tryz.f237.body = none := by kernel_rfl
theorem cl_name : (Tryz.f237.name == "runtime.NumGoroutine") = false := by kernel_rfl
theorem cl_next : (Extern.findNext Tryz.f237).isNone = true := by kernel_rfl
theorem cl_find : Extern.find Tryz.f237 = some Extern.MapsClone.clone := by kernel_rfl

theorem base : Hyp (EE []) where
  mixed := mixed
  tr := fun f hf => by cases hf
  names := fun f fn hf hb => by
    have := List.all_eq_true.1 noGo fn (by rw [Array.mem_toList_iff]; exact Array.mem_of_getElem? hf)
    cases h : fn.name == "runtime.NumGoroutine" with
    | false => rfl
    | true =>
      rw [h] at this
      cases hx : fn.body with
      | none => rw [hx] at hb; cases hb
      | some c => rw [hx] at this; simp at this
  clone := fun g hg fn hf hb args w => by
    cases hg
    have : Tryz.prog.funcs[237]? = some Tryz.f237 := Tryz.func237
    have e : fn = Tryz.f237 := Option.some.inj (hf.symm.trans this)
    subst e
    have hn := cl_next
    cases hx : Extern.findNext Tryz.f237 with
    | some _ => rw [hx] at hn; cases hn
    | none =>
      simp only [callFunc, program, Sem.run_bind, Sem.run, Result.andThen, hf, cl_name, Bool.false_eq_true, if_false, cl_body, Option.isNone, if_true, hx, cl_find]
      rfl

theorem grow {tr : List FuncId} (hy : Hyp (EE tr)) {n : Nat} {f : FuncId} {fn : Func} {c : Code} (hf : Tryz.prog.funcs[f]? = some fn) (hb : fn.body = some c) (hm : memN f tr = false) (h : callsTrue (EE tr) n f [] = true) : Hyp (EE (f :: tr)) where
  mixed := mixed
  tr := fun g hg => by
    rcases List.mem_cons.1 hg with rfl | hg
    · exact ⟨⟨fn, c, hf, hb⟩, fun w => callsTrue_ok hy h (fun x => by have := (memN_iff g tr).2 x; rw [this] at hm; cases hm) ⟨fn, c, hf, hb⟩ (by show rels _ [] [] ; rw [rels_nil]) w⟩
    · exact hy.tr g hg
  names := hy.names
  clone := hy.clone

theorem hb {fn : Func} (h : fn.body.isSome = true) : fn.body = some (fn.body.getD .skip) := by
  cases hx : fn.body with
  | none => rw [hx] at h; cases h
  | some c => rfl

theorem run1 : callsTrue (EE []) 20000 311 [] = true := by kernel_rfl
theorem hy1 : Hyp (EE [311]) := grow base Tryz.func311 (hb (by kernel_rfl)) rfl run1
theorem run7 : callsTrue (EE [311]) 20000 313 [] = true := by kernel_rfl
theorem hy7 : Hyp (EE [313, 311]) := grow hy1 Tryz.func313 (hb (by kernel_rfl)) rfl run7
theorem run8 : callsTrue (EE [313, 311]) 20000 238 [] = true := by kernel_rfl
theorem hy8 : Hyp (EE [238, 313, 311]) := grow hy7 Tryz.func238 (hb (by kernel_rfl)) rfl run8
theorem run12 : callsTrue (EE [238, 313, 311]) 20000 239 [] = true := by kernel_rfl
theorem hy12 : Hyp (EE [239, 238, 313, 311]) := grow hy8 Tryz.func239 (hb (by kernel_rfl)) rfl run12
theorem run14 : callsTrue (EE [239, 238, 313, 311]) 20000 158 [] = true := by kernel_rfl
theorem hy14 : Hyp (EE [158, 239, 238, 313, 311]) := grow hy12 Tryz.func158 (hb (by kernel_rfl)) rfl run14
theorem run15 : callsTrue (EE [158, 239, 238, 313, 311]) 20000 53 [] = true := by kernel_rfl
theorem hy15 : Hyp (EE [53, 158, 239, 238, 313, 311]) := grow hy14 Tryz.func53 (hb (by kernel_rfl)) rfl run15
theorem run17 : callsTrue (EE [53, 158, 239, 238, 313, 311]) 20000 12 [] = true := by kernel_rfl
theorem hy17 : Hyp (EE [12, 53, 158, 239, 238, 313, 311]) := grow hy15 Tryz.func12 (hb (by kernel_rfl)) rfl run17
end Go.Proofs.YtelkghkaalmhoaaGreatDoor
