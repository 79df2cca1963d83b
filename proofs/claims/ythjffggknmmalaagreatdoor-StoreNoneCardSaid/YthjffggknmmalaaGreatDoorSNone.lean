/- Shown: 'scarflaw17.StoreNone' answers true, for every argument and in every world. No condition. -/
import Derived.Test.YthjffggknmmalaaGreatDoorSRunB
import Derived.Test.YthjffggknmmalaaGreatDoorSLight
set_option linter.unusedVariables false
namespace Go.Proofs.YthjffggknmmalaaGreatDoor.SNone
open Go.Ev Go.RowKit SSys SRun SLight Go.Proofs.YthjffggknmmalaaGreatDoorW.PrintWords Go.Proofs.YthjffggknmmalaaGreatDoor.PLight
theorem chan_of [Opq] {ρ : Map} {u : Value} {i : Nat} (h : VR ρ u (.chan (some i))) : u = Opq.val i := by cases h; rfl
theorem known_of {b : Bool} {f : FuncId} {args : List Value} {v : Value} (h : knownOf (es b) f args = some v) : f = 13 ∧ args = [vV] ∧ v = .bool b := by
  have h : (bif Nat.beq 13 f then (bif listsSame [vV] args then some (Value.bool b) else none) else none) = some v := h
  cases h1 : Nat.beq 13 f with
  | false => rw [h1] at h; cases h
  | true =>
    rw [h1] at h
    cases h2 : listsSame [vV] args with
    | false => rw [h2] at h; cases h
    | true =>
      rw [h2] at h
      simp only [cond_true, Option.some.injEq] at h
      refine ⟨(Nat.eq_of_beq_eq_true h1).symm, ?_, h.symm⟩
      letI : Opq := ⟨fun _ => .nilFunc, fun _ => rfl, fun _ _ h => (by cases h), default⟩
      exact (listsEq_eq (veq_eq 12) [vV] args h2).symm
section
variable (k0 r0 : Int) (A1 A2 : Option Addr) (l1 c1 l2 c2 : Nat) (n : Int) (B1 B2 : Option Addr) (d1 d2 : Nat) (ys : List Int) (zs : List S40) (at0 enc : Int)
def vals : Nat → Value
  | 0 => .int .i64 k0
  | 1 => .slice A1 l1 c1
  | 2 => .slice A2 l2 c2
  | 3 => .int .i64 r0
  | 4 => .int .i64 n
  | 5 => .slice B1 ys.length d1
  | 6 => .slice B2 zs.length d2
  | 7 => .int .i64 at0
  | 8 => .int .i64 enc
  | _ => .nilFunc
theorem contract (W : World) (hys : (Kd.int .i64).C W B1 ys.length ys) (hyl : ys.length ≤ d1) (hzs : k40.C W B2 zs.length zs) (hzl : zs.length ≤ d2) (he : -9223372036854775808 ≤ enc ∧ enc ≤ 9223372036854775807) :
    Calls Tryz.prog 4 #[.agg #[.int .i64 k0, .slice A1 l1 c1, .slice A2 l2 c2, .int .i64 r0], .agg #[.int .i64 n, .slice B1 ys.length d1, .slice B2 zs.length d2], .int .i64 at0, .int .i64 enc] W
      fun e W' => e = .returned (.bool true) ∧ Below W.heap.size W W' := by
  obtain ⟨k, b, hb⟩ := light_ends n ys zs
  letI : Opq := ⟨vals k0 r0 A1 A2 l1 c1 l2 c2 n B1 B2 d1 d2 ys zs at0 enc, fun i => (by unfold vals; split <;> rfl), fun i b h => (by unfold vals at h; split at h <;> cases h), W⟩
  have hK : KnownOk Tryz.prog (es b) W.heap.size := by
    intro f args v hk w cargs hB hold ⟨ρ, hv⟩
    obtain ⟨rfl, rfl, rfl⟩ := known_of hk
    have hc : cargs = #[.agg #[.int .i64 n, .slice B1 ys.length d1, .slice B2 zs.length d2]] := by
      obtain ⟨u, hu, hvu⟩ := hv.get (i := 0) (v := vV) rfl
      have hlen := hv.1
      have h1 : cargs.toList = [u] := by
        match hcl : cargs.toList, hlen with
        | [x], _ => rw [hcl] at hu; simp at hu; rw [hu]
      have h2 : u = .agg #[.int .i64 n, .slice B1 ys.length d1, .slice B2 zs.length d2] := by
        unfold vV at hvu
        cases hvu with
        | @agg a _ hs hx =>
          congr 1
          apply Array.ext (by rw [hs]; rfl)
          intro i hi hi'
          have hi3 : i < 3 := by rw [hs] at hi; exact hi
          have g := fun j (hj : j < a.size) (v : Value) (hv : (#[Value.chan (some 4), .chan (some 5), .chan (some 6)] : Array Value)[j]? = some v) => hx j _ v (Array.getElem?_eq_getElem hj) hv
          match i, hi3 with
          | 0, _ => exact chan_of (g 0 hi _ rfl)
          | 1, _ => exact chan_of (g 1 hi _ rfl)
          | 2, _ => exact chan_of (g 2 hi _ rfl)
      rw [h2] at h1
      apply Array.ext'
      rw [h1]
    subst hc
    refine ⟨⟨Tryz.f13, _, Tryz.func13, rfl⟩, callsIn_wide.2 ((scarflaw15_Light.calls k n B1 d1 ys B2 d2 zs b w (Kd.C_below hys hold) hyl (Kd.C_below hzs hold) hzl hb).mono fun e w' ⟨e1, e2⟩ => ⟨.bool b, e1, fun ρ => .bool b, e2⟩)⟩
  have arg : ∀ lo hi : Int, lo ≤ enc → enc ≤ hi → VRs (fun _ => none) (#[Value.agg #[.int .i64 k0, .slice A1 l1 c1, .slice A2 l2 c2, .int .i64 r0], .agg #[.int .i64 n, .slice B1 ys.length d1, .slice B2 zs.length d2], .int .i64 at0, .int .i64 enc] : Array Value).toList [vT, vV, .chan (some 7), encV lo hi] := fun lo hi h1 h2 =>
    VRs.cons (.agg_of (VRs.cons (.opq 0) (VRs.cons (.opq 1) (VRs.cons (.opq 2) (VRs.cons (.opq 3) (VRs.nil _))))))
      (VRs.cons (.agg_of (VRs.cons (.opq 4) (VRs.cons (.opq 5) (VRs.cons (.opq 6) (VRs.nil _)))))
        (VRs.cons (.opq 7) (VRs.cons (.opqI 0 (.chan (some 8)) .i64 enc lo hi (.base 8 .i64 enc rfl) h1 h2) (VRs.nil _))))
  have fin : ∀ lo hi : Int, lo ≤ enc → enc ≤ hi → run b lo hi = true → Calls Tryz.prog 4 #[.agg #[.int .i64 k0, .slice A1 l1 c1, .slice A2 l2 c2, .int .i64 r0], .agg #[.int .i64 n, .slice B1 ys.length d1, .slice B2 zs.length d2], .int .i64 at0, .int .i64 enc] W
      fun e W' => e = .returned (.bool true) ∧ Below W.heap.size W W' := fun lo hi h1 h2 hr =>
    callsIn_wide.1 (answers (SSys.sys _ (fun _ => rfl)) hK (Below.refl _ _) (arg lo hi h1 h2) hr)
  cases b with
  | false => exact fin _ _ he.1 he.2 run_no
  | true =>
    by_cases h1 : enc < 0
    · exact fin _ _ he.1 (by omega) run_less
    · by_cases h2 : enc ≤ 2
      · exact fin 0 2 (by omega) h2 run_mid
      · exact fin 3 _ (by omega) he.2 run_more
end
end Go.Proofs.YthjffggknmmalaaGreatDoor.SNone
