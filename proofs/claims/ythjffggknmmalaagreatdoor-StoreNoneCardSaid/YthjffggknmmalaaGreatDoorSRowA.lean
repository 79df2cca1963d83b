/- Shown: 'scarflaw17.StoreNone' answers true for every argument, and leaves each as it was: the row, and its tied card. No condition. -/
import Derived.Test.YthjffggknmmalaaGreatDoorSNone
import Derived.Test.YthjffggknmmalaaGreatDoorCards
import Derived.Test.YthjffggknmmalaaGreatDoorTie
import Derived.WalkKit
import Derived.ProofKit
import Derived.OpenShut
import Derived.Deep.DeepHandedRow
import Derived.Lib.LaidTab
import Derived.Carry
set_option linter.unusedVariables false
set_option linter.unusedSimpArgs false
namespace Go.Proofs.YthjffggknmmalaaGreatDoor.SRow
open Go.ChangeShapes Go.WideShapes Go.ChangeAt Go.RowKit SLight SNone
theorem own : ownKnob Tryz.prog.godebug = none := by kernel_rfl
theorem laidOut : laidOutB Tryz.prog = true := by kernel_rfl
theorem cells9 : Tryz.prog.cellsOf 9 = 1 := by kernel_rfl
theorem cells22 : Tryz.prog.cellsOf 22 = 1 := by kernel_rfl
theorem cells23 : Tryz.prog.cellsOf 23 = 1 := by kernel_rfl
theorem cells25 : Tryz.prog.cellsOf 25 = 4 := by kernel_rfl
theorem slice_any {H : Type} {enc : TypeId × Value → H} {w : World} {base : Nat} {spare : Nat → Bool} {held : Bool} {t e : TypeId} {fuel : Nat} {cs : List Value} {x : DataW H × List MemPlace} (ht : Tryz.prog.underlying t = some (.slice e))
    (h : DataW.trod enc Tryz.prog w base spare held fuel t cs = some x) : ∃ A l c, cs = [.slice A l c] := by
  rcases DataW.trod_slice ht h with ⟨rfl, _⟩ | ⟨a, len, cap, elems, rest, n, rfl, rfl, _⟩
  · exact ⟨none, 0, 0, rfl⟩
  · exact ⟨some a, len, cap, rfl⟩
theorem type_of {H : Type} {enc : TypeId × Value → H} {w : World} {base : Nat} {spare : Nat → Bool} {held : Bool} {fuel : Nat} {cs : List Value} {x : DataW H × List MemPlace}
    (h : DataW.trod enc Tryz.prog w base spare held fuel 25 cs = some x) : ∃ k A1 l1 c1 A2 l2 c2 r, cs = [.int .i64 k, .slice A1 l1 c1, .slice A2 l2 c2, .int .i64 r] := by
  obtain ⟨xs, n, rfl, _, hl, hlen, hf⟩ := DataW.trod_struct Tryz.underlying25 h
  rw [cells25] at hl
  obtain ⟨u0, u1, u2, u3, rfl⟩ := four hl
  have h0 := hf 0 _ rfl
  have h1 := hf 1 _ rfl
  have h2 := hf 2 _ rfl
  have h3 := hf 3 _ rfl
  rw [List.getElem?_eq_getElem (by rw [hlen]; decide)] at h0 h1 h2 h3
  change DataW.trod enc Tryz.prog w base spare held n 3 (([u0, u1, u2, u3].drop 0).take (Tryz.prog.cellsOf 3)) = _ at h0
  change DataW.trod enc Tryz.prog w base spare held n 22 (([u0, u1, u2, u3].drop 1).take (Tryz.prog.cellsOf 22)) = _ at h1
  change DataW.trod enc Tryz.prog w base spare held n 23 (([u0, u1, u2, u3].drop 2).take (Tryz.prog.cellsOf 23)) = _ at h2
  change DataW.trod enc Tryz.prog w base spare held n 3 (([u0, u1, u2, u3].drop 3).take (Tryz.prog.cellsOf 3)) = _ at h3
  rw [cells3] at h0 h3
  rw [cells22] at h1
  rw [cells23] at h2
  obtain ⟨a, e0⟩ := int_of Tryz.underlying3 h0
  obtain ⟨A1, l1, c1, e1⟩ := slice_any Tryz.underlying22 h1
  obtain ⟨A2, l2, c2, e2⟩ := slice_any Tryz.underlying23 h2
  obtain ⟨b, e3⟩ := int_of Tryz.underlying3 h3
  replace e0 : [u0] = _ := e0
  replace e1 : [u1] = _ := e1
  replace e2 : [u2] = _ := e2
  replace e3 : [u3] = _ := e3
  injection e0 with e0 _
  injection e1 with e1 _
  injection e2 with e2 _
  injection e3 with e3 _
  subst e0; subst e1; subst e2; subst e3
  exact ⟨a, A1, l1, c1, A2, l2, c2, b, rfl⟩
set_option maxRecDepth 100000 in
/-- what the law's call comes to, read as the row reads it -/
theorem contract (H : Type) (enc : TypeId × Value → H) (W : World) (base : Nat) (args : Array Value) (ds gs : List (DataW H)) (before : List MemPlace)
    (hval : ∀ (j : Nat) t v, Tryz.f4.params[j]? = some t → args[j]? = some v → Value.okWide Tryz.prog W .any base t v)
    (hW : DataW.Whole enc Tryz.prog Tryz.f4.params.toList Rows.storeNoneSpec.vars false W args.toList ds gs before) :
    Calls Tryz.prog 4 args W fun e W' => ∃ v, e = .returned v ∧ Rows.storeNoneSpec.post enc Tryz.prog Tryz.f4 false true false false W args v W' := by
  have hW' := hW
  obtain ⟨p, q, hA0, hV, rfl, hfz, hnd⟩ := hW
  have hA : DataW.TrodAll enc Tryz.prog W 0 (fun _ => true) true Tryz.f4.params.toList args.toList ds p := hA0
  rw [Tryz.params4] at hA hval
  obtain ⟨v0, vs0, d0, ds0, p0, q0, hargs, rfl, rfl, h0, r0⟩ := trodAll_cons hA
  obtain ⟨v1, vs1, d1, ds1, p1, q1, rfl, rfl, rfl, h1, r1⟩ := trodAll_cons r0
  obtain ⟨v2, vs2, d2, ds2, p2, q2, rfl, rfl, rfl, h2, r2⟩ := trodAll_cons r1
  obtain ⟨v3, vs3, d3, ds3, p3, q3, rfl, rfl, rfl, h3, r3⟩ := trodAll_cons r2
  obtain ⟨rfl, rfl, rfl⟩ := trodAll_nil r3
  obtain rfl : args = #[v0, v1, v2, v3] := by cases args; simp_all
  obtain ⟨rfl, rfl⟩ := trodVars_none hV
  have lt0 : ∀ x ∈ p0, x.block < W.heap.size := by obtain ⟨m, hm⟩ := h0; exact DataW.trod_lt m _ _ _ hm
  have lt1 : ∀ x ∈ p1, x.block < W.heap.size := by obtain ⟨m, hm⟩ := h1; exact DataW.trod_lt m _ _ _ hm
  have lt2 : ∀ x ∈ p2, x.block < W.heap.size := by obtain ⟨m, hm⟩ := h2; exact DataW.trod_lt m _ _ _ hm
  have lt3 : ∀ x ∈ p3, x.block < W.heap.size := by obtain ⟨m, hm⟩ := h3; exact DataW.trod_lt m _ _ _ hm
  have k0 := h0; have k1 := h1; have k2 := h2; have k3 := h3
  obtain ⟨xs0, rfl, _⟩ := okWide_struct Tryz.underlying25 (hval 0 25 v0 rfl rfl)
  obtain ⟨xs1, rfl, _⟩ := okWide_struct Tryz.underlying40 (hval 1 40 v1 rfl rfl)
  obtain ⟨a2, rfl, _, _, w2⟩ := open_int Tryz.underlying3 (hval 2 3 v2 rfl rfl) h2
  obtain ⟨a3, rfl, _, _, w3⟩ := open_int Tryz.underlying3 (hval 3 3 v3 rfl rfl) h3
  obtain ⟨m0, g0⟩ := h0
  obtain ⟨m1, g1⟩ := h1
  obtain ⟨k, A1, l1, c1, A2, l2, c2, r, e0⟩ := type_of g0
  obtain ⟨y, hy⟩ := val_of _ _ _ g1
  obtain ⟨B1, e1c, B2, e2c, e1, y1, y2, y3, y4⟩ := Go.Proofs.YthjffggknmmalaaGreatDoor.PLight.k40_open hy
  obtain rfl : xs0 = #[.int .i64 k, .slice A1 l1 c1, .slice A2 l2 c2, .int .i64 r] := Array.ext' e0
  obtain rfl : xs1 = #[.int .i64 y.f0, .slice B1 y.f1.length e1c, .slice B2 y.f2.length e2c] := Array.ext' e1
  have hr : -9223372036854775808 ≤ a3 ∧ a3 ≤ 9223372036854775807 := by
    simp [Lit.wf, IntKind.min, IntKind.max, IntKind.signed, IntKind.bits] at w3
    omega
  clear hA0
  refine (SNone.contract k r A1 A2 l1 c1 l2 c2 y.f0 B1 B2 e1c e2c y.f1 y.f2 a2 a3 W y2 y1 y4 y3 hr).mono fun e W' ⟨he, bel⟩ => ?_
  subst he
  have sh : ∀ {t : TypeId} {v : Value} {d : DataW H} {p : List MemPlace}, Tryz.prog.readableRec t = true → t < Tryz.prog.types.size → DataW.Trod enc Tryz.prog W 0 (fun _ => true) true t v d p → (∀ x ∈ p, x.block < W.heap.size) → DataW.Trod enc Tryz.prog W' 0 (fun b => decide (b < W.heap.size)) true t v d p :=
    fun h1 h2 h3 h4 => Below.trod laidOut h1 h2 h3 bel h4
  exact ⟨_, rfl, _, _, _, [], _, [], hW', trodAll_mk1 (shut_bool Tryz.underlying4 _),
    trodAll_cons_mk (sh (by kernel_rfl) (of_decide_eq_true (by kernel_rfl)) k0 lt0) (trodAll_cons_mk (sh (by kernel_rfl) (of_decide_eq_true (by kernel_rfl)) k1 lt1)
      (trodAll_cons_mk (sh (by kernel_rfl) (of_decide_eq_true (by kernel_rfl)) k2 lt2) (trodAll_cons_mk (sh (by kernel_rfl) (of_decide_eq_true (by kernel_rfl)) k3 lt3) trodAll_mk0))), rfl, bel.frame _, fun h => by cases h⟩
end Go.Proofs.YthjffggknmmalaaGreatDoor.SRow
