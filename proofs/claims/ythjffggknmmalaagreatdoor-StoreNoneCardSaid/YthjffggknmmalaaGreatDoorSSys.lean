/- Shown: what the evaluator asks of the program. No condition. -/
import Derived.Test.YthjffggknmmalaaGreatDoorEvC
import Derived.Test.YthjffggknmmalaaGreatDoorProg
import Derived.Laws.StandIn
set_option linter.unusedVariables false
namespace Go.Proofs.YthjffggknmmalaaGreatDoor.SSys
open Go.Ev
theorem num_all : (Tryz.prog.funcs.toList.all fun fn => !(fn.body.isSome && fn.name == "runtime.NumGoroutine")) = true := by kernel_rfl
theorem num (f : FuncId) (fn : Func) (h : Tryz.prog.funcs[f]? = some fn) (hb : fn.body.isSome = true) : (fn.name == "runtime.NumGoroutine") = false := by
  have := List.all_eq_true.1 num_all fn (by
    have : Tryz.prog.funcs.toList[f]? = some fn := by rw [Array.getElem?_toList]; exact h
    exact List.mem_of_getElem? this)
  rw [hb] at this
  simpa using this
theorem mixed : Tryz.prog.follows .mixedOrders = true := by kernel_rfl
/-- the functions without a body that the program calls, and what is told from outside -/
def exts (l : List (Nat × Ext)) : List (Nat × Ext) := (322, .indexByte) :: (289, .noEscape) :: l
theorem ext_of (l : List (Nat × Ext)) (hl : ∀ f, extOf l f = none) {f : Nat} {e : Ext} (h : extOf (exts l) f = some e) : (f = 322 ∧ e = .indexByte) ∨ (f = 289 ∧ e = .noEscape) := by
  have h : (bif Nat.beq 322 f then some Ext.indexByte else bif Nat.beq 289 f then some Ext.noEscape else extOf l f) = some e := h
  rw [hl f] at h
  cases h1 : Nat.beq 322 f with
  | true =>
    rw [h1] at h
    simp only [cond_true, Option.some.injEq] at h
    exact .inl ⟨(Nat.eq_of_beq_eq_true h1).symm, h.symm⟩
  | false =>
    rw [h1] at h
    simp only [cond_false] at h
    cases h2 : Nat.beq 289 f with
    | true =>
      rw [h2] at h
      simp only [cond_true, Option.some.injEq] at h
      exact .inr ⟨(Nat.eq_of_beq_eq_true h2).symm, h.symm⟩
    | false => rw [h2] at h; cases h
theorem sys (l : List (Nat × Ext)) (hl : ∀ f, extOf l f = none) : Go.Ev.Sys Tryz.prog (exts l) where
  num := num
  mixed := mixed
  ext f e args w he := by
    rcases ext_of l hl he with ⟨rfl, rfl⟩ | ⟨rfl, rfl⟩
    · rw [run_callFunc_extern Tryz.func322 (by kernel_rfl) (by kernel_rfl) (by kernel_rfl) (e := Extern.BytealgIndexByte.indexByte) (by kernel_rfl)]
      rw [Sem.run_bind]; rfl
    · rw [run_callFunc_extern Tryz.func289 (by kernel_rfl) (by kernel_rfl) (by kernel_rfl) (e := Extern.AbiNoEscape.same) (by kernel_rfl)]
      rw [Sem.run_bind]; rfl
end Go.Proofs.YthjffggknmmalaaGreatDoor.SSys
