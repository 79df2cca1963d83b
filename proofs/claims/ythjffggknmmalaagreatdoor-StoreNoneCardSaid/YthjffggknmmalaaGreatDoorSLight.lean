/- Shown: 'scarflaw15.Light' answers, whatever value it is given. No condition. -/
import Derived.Test.YthjffggknmmalaaGreatDoorPLightx1
import Derived.Deep.Slices
set_option linter.unusedVariables false
namespace Go.Proofs.YthjffggknmmalaaGreatDoor.SLight
open Go.RowKit Go.Proofs.YthjffggknmmalaaGreatDoorW.PrintWords Go.Proofs.YthjffggknmmalaaGreatDoor.PLight
/-! the plain part: it comes to an end -/
theorem mono_f (k j : Nat) {a0 : Int} {a1 : List Int} {a2 : List S40} {d r : Int} (h : scarflaw15_weigh.f k a0 a1 a2 d = some r) : scarflaw15_weigh.f (k + j) a0 a1 a2 d = some r :=
  at_rounds (g := fun k => scarflaw15_weigh.f k a0 a1 a2 d) (fun k => scarflaw15_weigh.mono a0 a1 a2 d k) (Nat.le_add_right k j) h
theorem mono_l (k : Nat) : ∀ (j : Nat) {d x5 x6 y : Int} {ys : List Int} {zs : List S40} {r : Int}, scarflaw15_weigh.l0 k d x5 x6 y ys zs = some r → scarflaw15_weigh.l0 (k + j) d x5 x6 y ys zs = some r
  | 0, _, _, _, _, _, _, _, h => h
  | j + 1, _, _, _, _, _, _, _, h => (scarflaw15_weigh.mono_l (k + j)).2.2 _ _ _ _ _ _ _ (mono_l k j h)
/-- the loop: given the rounds' own answers -/
theorem loop_ends {d y : Int} {ys : List Int} {zs : List S40} (hz : zs.length ≤ 20000) (ih : ∀ s : S40, ∃ k r, scarflaw15_weigh.f k s.f0 s.f1 s.f2 (wrap64 (d + 1)) = some r) :
    ∀ (m : Nat) (x5 x6 : Int), 0 ≤ x6 → (zs.length : Int) - x6 ≤ m → ∃ k r, scarflaw15_weigh.l0 k d x5 x6 y ys zs = some r
  | 0, x5, x6, h0, hm => ⟨1, x5, by simp only [scarflaw15_weigh.l0]; rw [if_neg (by omega)]⟩
  | m + 1, x5, x6, h0, hm => by
    by_cases h1 : x6 < (zs.length : Int)
    · by_cases h2 : x5 ≤ 20000
      · obtain ⟨k1, r1, e1⟩ := ih (rd_T40 zs x6)
        have hw : wrap64 (x6 + 1) = x6 + 1 := by unfold wrap64; omega
        obtain ⟨k2, r2, e2⟩ := loop_ends hz ih m (wrap64 (x5 + r1)) (x6 + 1) (by omega) (by omega)
        refine ⟨k1 + k2 + 1, r2, ?_⟩
        simp only [scarflaw15_weigh.l0]
        rw [if_pos h1, if_pos h2, if_pos h0, mono_f k1 k2 e1]
        simp only [Option.bind_some]
        rw [hw, Nat.add_comm k1 k2]
        exact mono_l k2 k1 e2
      · exact ⟨1, x5, by simp only [scarflaw15_weigh.l0]; rw [if_pos h1, if_neg h2]⟩
    · exact ⟨1, x5, by simp only [scarflaw15_weigh.l0]; rw [if_neg h1]⟩
theorem great (k : Nat) (d y : Int) (ys : List Int) (zs : List S40) : scarflaw15_weigh.j0 (k + 1) d true y ys zs = some 1073741824 := by simp only [scarflaw15_weigh.j0, if_true]
theorem weigh_ends : ∀ (m : Nat) (d y : Int) (ys : List Int) (zs : List S40), 0 ≤ d → 21 - d ≤ m → ∃ k r, scarflaw15_weigh.f k y ys zs d = some r
  | 0, d, y, ys, zs, h0, hm => ⟨2, _, by simp only [scarflaw15_weigh.f]; rw [if_pos (by omega)]; exact great 0 d y ys zs⟩
  | m + 1, d, y, ys, zs, h0, hm => by
    by_cases h1 : d > 20
    · exact ⟨2, _, by simp only [scarflaw15_weigh.f]; rw [if_pos h1]; exact great 0 d y ys zs⟩
    · by_cases h2 : (ys.length : Int) > 20000
      · exact ⟨2, _, by simp only [scarflaw15_weigh.f]; rw [if_neg h1, if_pos h2]; exact great 0 d y ys zs⟩
      · by_cases h3 : (zs.length : Int) > 20000
        · exact ⟨2, _, by simp only [scarflaw15_weigh.f]; rw [if_neg h1, if_neg h2, decide_eq_true h3]; exact great 0 d y ys zs⟩
        · have hd : wrap64 (d + 1) = d + 1 := by unfold wrap64; omega
          obtain ⟨k, r, e⟩ := loop_ends (d := d) (y := y) (ys := ys) (zs := zs) (by omega) (fun s => by rw [hd]; exact weigh_ends m (d + 1) s.f0 s.f1 s.f2 (by omega) (by omega)) zs.length (wrap64 (1 + (ys.length : Int))) 0 (by omega) (by omega)
          refine ⟨k + 2, r, ?_⟩
          simp only [scarflaw15_weigh.f]
          rw [if_neg h1, if_neg h2, decide_eq_false h3]
          simp only [scarflaw15_weigh.j0]
          rw [if_neg (by decide)]
          exact e
theorem light_ends (y : Int) (ys : List Int) (zs : List S40) : ∃ k b, scarflaw15_Light.f k y ys zs = some b := by
  obtain ⟨k, r, e⟩ := weigh_ends 21 0 y ys zs (by omega) (by omega)
  exact ⟨k, _, by unfold scarflaw15_Light.f; rw [e]; rfl⟩
/-! readings -/
section
variable {H : Type} {enc : TypeId × Value → H} {w : World} {base : Nat} {spare : Nat → Bool} {held : Bool}
theorem three {α : Type} {l : List α} (h : l.length = 3) : ∃ a b c, l = [a, b, c] := by
  match l, h with
  | [a, b, c], _ => exact ⟨a, b, c, rfl⟩
theorem four {α : Type} {l : List α} (h : l.length = 4) : ∃ a b c d, l = [a, b, c, d] := by
  match l, h with
  | [a, b, c, d], _ => exact ⟨a, b, c, d, rfl⟩
theorem cells3 : Tryz.prog.cellsOf 3 = 1 := by kernel_rfl
theorem cells28 : Tryz.prog.cellsOf 28 = 1 := by kernel_rfl
theorem cells29 : Tryz.prog.cellsOf 29 = 1 := by kernel_rfl
theorem cells40 : Tryz.prog.cellsOf 40 = 3 := by kernel_rfl
theorem int_of {t : TypeId} {k : IntKind} (ht : Tryz.prog.underlying t = some (.int k)) {fuel : Nat} {cs : List Value} {x : DataW H × List MemPlace} (h : DataW.trod enc Tryz.prog w base spare held fuel t cs = some x) : ∃ n, cs = [.int k n] := by
  cases fuel with
  | zero => cases h
  | succ fuel =>
    unfold DataW.trod at h
    rw [ht] at h
    split at h <;> first
      | (rename_i e; injection e; done)
      | skip
    all_goals (try (rename_i e; injection e with e; injection e with e; done))
    all_goals first
      | (rename_i e; injection e with e; cases e; split at h <;> first | (rename_i hk; obtain ⟨rfl, _⟩ := hk; exact ⟨_, rfl⟩) | cases h)
      | (cases h; done)
      | (rename_i e; cases e; done)
theorem slice_of {α : Type} [Inhabited α] (d : Kd α) {t e : TypeId} {fuel : Nat} {cs : List Value} {x : DataW H × List MemPlace} (ht : Tryz.prog.underlying t = some (.slice e)) (hsz : d.sz = Tryz.prog.cellsOf e)
    (hel : ∀ n cs' x', n < fuel → DataW.trod enc Tryz.prog w base spare held n e cs' = some x' → ∃ y, d.K w y cs') (h : DataW.trod enc Tryz.prog w base spare held fuel t cs = some x) :
    ∃ A cap xs, cs = [.slice A xs.length cap] ∧ xs.length ≤ cap ∧ cap ≤ maxLen ∧ d.C w A xs.length xs := by
  rcases DataW.trod_slice ht h with ⟨rfl, _⟩ | ⟨a, len, cap, elems, rest, n, rfl, rfl, _, _, hl, hm, hlen, hg, _, _⟩
  · exact ⟨none, 0, [], rfl, Nat.le_refl _, Nat.zero_le _, rfl, by simp, fun h => absurd h (by simp)⟩
  · have key : ∀ i, i < len → ∃ y : α, ∃ c : List Value, c.length = d.sz ∧ d.K w y c ∧ ∀ j u, c[j]? = some u → w.cell? (a.add (i * d.sz + j)) = some u := fun i hi => by
      have h1 := hg i hi
      rw [List.getElem?_eq_getElem (by omega)] at h1
      obtain ⟨c, h2, h3⟩ := Option.bind_eq_some_iff.1 h1
      obtain ⟨y, hy⟩ := hel n c _ (Nat.lt_succ_self n) h3
      obtain ⟨_, h4, h5⟩ := World.cells?_some h2
      refine ⟨y, c, by rw [hsz]; exact h4, hy, fun j u hj => ?_⟩
      have hj' : j < c.length := (List.getElem?_eq_some_iff.1 hj).1
      have h6 := h5 j (by omega)
      rw [hsz, ← Go.Deep.add_add, h6]; exact hj
    obtain ⟨f, hf⟩ := Go.Deep.choose_lt key
    have hlen2 : ((List.range len).map f).length = len := by simp
    refine ⟨some a, cap, (List.range len).map f, by rw [hlen2], by rw [hlen2]; exact hl, hm, rfl, ?_, fun _ => ⟨a, rfl, fun j p hj => ?_⟩⟩
    · rw [hlen2]; have : maxLen ≤ 9223372036854775807 := by decide
      omega
    · have hj' : j < len := by have := (List.getElem?_eq_some_iff.1 hj).1; simpa using this
      simp [hj'] at hj
      subst hj
      exact hf j hj'
theorem ints_of {t : TypeId} (ht : Tryz.prog.underlying t = some (.slice 3)) {fuel : Nat} {cs : List Value} {x : DataW H × List MemPlace} (h : DataW.trod enc Tryz.prog w base spare held fuel t cs = some x) :
    ∃ A cap xs, cs = [.slice A xs.length cap] ∧ xs.length ≤ cap ∧ cap ≤ maxLen ∧ (Kd.int .i64).C w A xs.length xs :=
  slice_of (Kd.int .i64) ht cells3.symm (fun n cs' x' _ h' => int_of Tryz.underlying3 h') h
instance : Inhabited S40 := ⟨z40⟩
theorem val_of : ∀ (fuel : Nat) (cs : List Value) (x : DataW H × List MemPlace), DataW.trod enc Tryz.prog w base spare held fuel 40 cs = some x → ∃ y : S40, k40.K w y cs := by
  intro fuel
  induction fuel using Nat.strongRecOn with
  | _ fuel ih =>
    intro cs x h
    obtain ⟨xs, n, rfl, _, hl, hlen, hf⟩ := DataW.trod_struct Tryz.underlying40 h
    rw [cells40] at hl
    obtain ⟨u0, u1, u2, rfl⟩ := three hl
    have h0 := hf 0 _ rfl
    have h1 := hf 1 _ rfl
    have h2 := hf 2 _ rfl
    rw [List.getElem?_eq_getElem (by rw [hlen]; decide)] at h0 h1 h2
    change DataW.trod enc Tryz.prog w base spare held n 3 (([u0, u1, u2].drop 0).take (Tryz.prog.cellsOf 3)) = _ at h0
    change DataW.trod enc Tryz.prog w base spare held n 28 (([u0, u1, u2].drop 1).take (Tryz.prog.cellsOf 28)) = _ at h1
    change DataW.trod enc Tryz.prog w base spare held n 29 (([u0, u1, u2].drop 2).take (Tryz.prog.cellsOf 29)) = _ at h2
    rw [cells3] at h0
    rw [cells28] at h1
    rw [cells29] at h2
    obtain ⟨a, e0⟩ := int_of Tryz.underlying3 h0
    obtain ⟨A1, c1, x1, e1, l1, _, r1⟩ := ints_of Tryz.underlying28 h1
    obtain ⟨A2, c2, x2, e2, l2, _, r2⟩ := slice_of k40 Tryz.underlying29 (by rw [cells40]; rfl) (fun m cs' x' hm h' => ih m (by omega) cs' x' h') h2
    replace e0 : [u0] = _ := e0
    replace e1 : [u1] = _ := e1
    replace e2 : [u2] = _ := e2
    injection e0 with e0 _
    injection e1 with e1 _
    injection e2 with e2 _
    subst e0; subst e1; subst e2
    exact ⟨⟨a, x1, x2⟩, k40_mk w ⟨a, x1, x2⟩ l1 r1 l2 r2⟩
end
end Go.Proofs.YthjffggknmmalaaGreatDoor.SLight
