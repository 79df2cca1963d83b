/- Shown: that the evaluator's operations are the machine's. No condition. -/
import Derived.Test.YthjffggknmmalaaGreatDoorEvA
import Derived.Laws.World
import Derived.Laws.Sem
import Derived.Below
import Derived.Laws.Cells
import Derived.Laws.CopyRow
import Derived.Laws.StructEq
import Derived.Laws.BytesString
import Derived.Lib.Bytealg
import Derived.Lib.Builder
import Derived.Deep.AppendSrc
import Derived.Room.Entries
import Derived.Laws.AppendOwn
import Derived.Lib.UnsafeStr
set_option linter.unusedVariables false
set_option linter.unusedSimpArgs false
set_option linter.unusedSectionVars false
namespace Go.Ev
/-! paths -/
def unpath : List Bool → Nat
  | [] => 0
  | true :: p => 2 * unpath p + 1
  | false :: p => 2 * unpath p + 2
theorem pathF_zero (k : Nat) : pathF 0 k = [] := rfl
theorem pathF_succ_zero (n : Nat) : pathF (n + 1) 0 = [] := rfl
theorem pathF_succ (n j : Nat) : pathF (n + 1) (j + 1) = Nat.beq (Nat.mod j 2) 0 :: pathF n (Nat.div j 2) := rfl
theorem unpath_pathF : ∀ (n k : Nat), k < n → unpath (pathF n k) = k := by
  intro n
  induction n with
  | zero => intro k h; omega
  | succ n ih =>
    intro k h
    cases k with
    | zero => rfl
    | succ j =>
      rw [pathF_succ]
      have hd : Nat.div j 2 = j / 2 := rfl
      have hm : Nat.mod j 2 = j % 2 := rfl
      have := ih (j / 2) (by omega)
      cases hb : Nat.beq (Nat.mod j 2) 0 with
      | true =>
        have h2 : j % 2 = 0 := by rw [← hm]; exact Nat.eq_of_beq_eq_true hb
        simp only [unpath]; rw [hd, this]; omega
      | false =>
        have h2 : j % 2 ≠ 0 := by intro e; rw [hm, e] at hb; exact absurd hb (by decide)
        simp only [unpath]; rw [hd, this]; omega
theorem path_inj {a b : Nat} (h : path a = path b) : a = b := by
  have h1 : unpath (path a) = a := unpath_pathF _ _ (Nat.lt_succ_self a)
  have h2 : unpath (path b) = b := unpath_pathF _ _ (Nat.lt_succ_self b)
  rw [h] at h1; omega
section
variable {α : Type}
theorem Tr.get_nil (p : List Bool) : Tr.get (.nil : Tr α) p = none := rfl
theorem Tr.get_node_nil (v : Option α) (l r : Tr α) : Tr.get (.node v l r) [] = v := rfl
theorem Tr.get_node_cons (v : Option α) (l r : Tr α) (b : Bool) (p : List Bool) : Tr.get (.node v l r) (b :: p) = bif b then Tr.get l p else Tr.get r p := by cases b <;> rfl
theorem Tr.set_nil (x : α) (t : Tr α) : Tr.set [] x t = match t with | .nil => .node (some x) .nil .nil | .node _ l r => .node (some x) l r := by cases t <;> rfl
theorem Tr.set_cons (b : Bool) (p : List Bool) (x : α) (t : Tr α) : Tr.set (b :: p) x t = match t with
    | .nil => bif b then .node none (Tr.set p x .nil) .nil else .node none .nil (Tr.set p x .nil)
    | .node v l r => bif b then .node v (Tr.set p x l) r else .node v l (Tr.set p x r) := by cases t <;> cases b <;> rfl
theorem Tr.get_set_same (p : List Bool) : ∀ (x : α) (t : Tr α), Tr.get (Tr.set p x t) p = some x := by
  induction p with
  | nil => intro x t; cases t <;> rfl
  | cons b p ih => intro x t; cases t <;> cases b <;> simp [Tr.set_cons, Tr.get_node_cons, ih]
theorem Tr.get_set_ne (p : List Bool) : ∀ (q : List Bool) (x : α) (t : Tr α), p ≠ q → Tr.get (Tr.set p x t) q = Tr.get t q := by
  induction p with
  | nil =>
    intro q x t h
    cases q with
    | nil => exact absurd rfl h
    | cons b q => cases t <;> cases b <;> simp [Tr.set_nil, Tr.get_node_cons, Tr.get_nil]
  | cons b p ih =>
    intro q x t h
    cases q with
    | nil => cases t <;> cases b <;> simp [Tr.set_cons, Tr.get_node_nil, Tr.get_nil]
    | cons c q =>
      by_cases hbc : b = c
      · subst hbc
        have hpq : p ≠ q := fun e => h (by rw [e])
        cases t <;> cases b <;> simp [Tr.set_cons, Tr.get_node_cons, ih _ _ _ hpq, Tr.get_nil]
      · cases t <;> cases b <;> cases c <;> simp_all [Tr.set_cons, Tr.get_node_cons, Tr.get_nil]
theorem Tr.get_set (k j : Nat) (x : α) (t : Tr α) : Tr.get (Tr.set (path k) x t) (path j) = if j = k then some x else Tr.get t (path j) := by
  by_cases h : j = k
  · subst h; simp [Tr.get_set_same]
  · rw [if_neg h, Tr.get_set_ne]; intro e; exact h (path_inj e).symm
theorem Tr.putAll_nil (i : Nat) (t : Tr α) : Tr.putAll [] i t = t := rfl
theorem Tr.putAll_cons (x : α) (l : List α) (i : Nat) (t : Tr α) : Tr.putAll (x :: l) i t = Tr.putAll l (i + 1) (Tr.set (path i) x t) := rfl
theorem Tr.get_putAll : ∀ (l : List α) (i : Nat) (t : Tr α) (j : Nat), Tr.get (Tr.putAll l i t) (path j) = if i ≤ j ∧ j < i + l.length then l[j - i]? else Tr.get t (path j) := by
  intro l
  induction l with
  | nil => intro i t j; rw [Tr.putAll_nil, if_neg (by simp)]
  | cons x l ih =>
    intro i t j
    rw [Tr.putAll_cons, ih, Tr.get_set]
    simp only [List.length_cons]
    by_cases h1 : i + 1 ≤ j ∧ j < i + 1 + l.length
    · rw [if_pos h1, if_pos (by omega), show j - i = (j - (i + 1)) + 1 by omega, List.getElem?_cons_succ]
    · rw [if_neg h1]
      by_cases h2 : j = i
      · subst h2; rw [if_pos rfl, if_pos (by omega)]; simp
      · rw [if_neg h2, if_neg (by omega)]
end
/-! values -/
abbrev Map := Nat → Option (Nat × Nat)
def Map.le (ρ ρ' : Map) : Prop := ∀ b p, ρ b = some p → ρ' b = some p
theorem Map.le_refl (ρ : Map) : Map.le ρ ρ := fun _ _ h => h
theorem Map.le_trans {a b c : Map} (h : Map.le a b) (k : Map.le b c) : Map.le a c := fun i p hi => k i p (h i p hi)
/-- what stands behind the names of values that are not known -/
class Opq where
  val : Nat → Value
  one : ∀ i, (val i).oneCell' = true
  nb : ∀ i b, val i ≠ .bool b
  w0 : World
variable [Opq]
/-- what a number that is not known comes to -/
def symF (m : Nat) (n : Int) : Int := if m % 2 = 0 then IntKind.i64.wrap (BitVec.ofInt IntKind.i64.bits n &&& BitVec.ofInt IntKind.i64.bits (Int.ofNat (m / 2))).toNat else IntKind.i64.wrap (BitVec.ofInt IntKind.i64.bits n ^^^ BitVec.ofInt IntKind.i64.bits (Int.ofNat (m / 2))).toNat
inductive Den : Value → IntKind → Int → Prop
  | base (i : Nat) (k : IntKind) (n : Int) : Opq.val i = .int k n → Den (.chan (some i)) k n
  | op (m : Nat) (e : Value) (n : Int) : Den e .i64 n → Den (.iface m e) .i64 (symF m n)
theorem Den.uniq {e : Value} {k j : IntKind} {m n : Int} (h : Den e k m) (g : Den e j n) : k = j ∧ m = n := by
  induction h generalizing j n with
  | base i k n h => cases g with
    | base _ _ _ g => rw [h] at g; cases g; exact ⟨rfl, rfl⟩
  | op m e n _ ih => cases g with
    | op _ _ _ g => obtain ⟨_, rfl⟩ := ih g; exact ⟨rfl, rfl⟩
/-- a value of the machine, and the evaluator's -/
inductive VR (ρ : Map) : Value → Value → Prop where
  | bool (b : Bool) : VR ρ (.bool b) (.bool b)
  | int (k : IntKind) (n : Int) : VR ρ (.int k n) (.int k n)
  | float (k : FloatKind) (n : Nat) : VR ρ (.float k n) (.float k n)
  | complex (k : FloatKind) (a b : Nat) : VR ρ (.complex k a b) (.complex k a b)
  | string (s : ByteArray) : VR ρ (.string s) (.string s)
  | nilPtr : VR ρ (.pointer none) (.pointer none)
  | ptr {b c x : Nat} (o : Nat) (s : Option Nat) : ρ b = some (c, x) → VR ρ (.pointer (some ⟨c, o, none⟩)) (.pointer (some ⟨b, o, s⟩))
  | nilSlice (l k : Nat) : VR ρ (.slice none l k) (.slice none l k)
  | slice {b c x : Nat} (o l k : Nat) : ρ b = some (c, x) → VR ρ (.slice (some ⟨c, o, none⟩) l k) (.slice (some ⟨b, o, none⟩) l k)
  | sliceX {b c x : Nat} (o l k : Nat) : ρ b = some (c, x) → VR ρ (.slice (some ⟨c, o, none⟩) l (k + x)) (.slice (some ⟨b, o, some 0⟩) l k)
  | sliceE {b c x : Nat} (o o' k i : Nat) : ρ b = some (c, x) → VR ρ (.slice (some ⟨c, o', none⟩) 0 k) (.slice (some ⟨b, o, some (i + 1)⟩) 0 0)
  | nilMap : VR ρ (.map none) (.map none)
  | map {b c x : Nat} : ρ b = some (c, x) → VR ρ (.map (some c)) (.map (some b))
  | func (f : FuncId) {a b c d : Array Value} : a.size = c.size → (∀ (i : Nat) u v, a[i]? = some u → c[i]? = some v → VR ρ u v) →
      b.size = d.size → (∀ (i : Nat) u v, b[i]? = some u → d[i]? = some v → VR ρ u v) → VR ρ (.func (.func f) a b) (.func (.func f) c d)
  | yield {b c x : Nat} : ρ b = some (c, x) → VR ρ (.func (.yield c) #[] #[]) (.func (.yield b) #[] #[])
  | nilFunc : VR ρ .nilFunc .nilFunc
  | nilIface : VR ρ .nilIface .nilIface
  | agg {a c : Array Value} : a.size = c.size → (∀ (i : Nat) u v, a[i]? = some u → c[i]? = some v → VR ρ u v) → VR ρ (.agg a) (.agg c)
  | tuple {a c : Array Value} : a.size = c.size → (∀ (i : Nat) u v, a[i]? = some u → c[i]? = some v → VR ρ u v) → VR ρ (.tuple a) (.tuple c)
  | opq (i : Nat) : VR ρ (Opq.val i) (.chan (some i))
  | opqI (i : Nat) (e : Value) (k : IntKind) (n lo hi : Int) : Den e k n → lo ≤ n → n ≤ hi → VR ρ (.int k n) (.iface i (.tuple #[.int k lo, .int k hi, e]))
theorem VR.mono {ρ ρ' : Map} (hle : Map.le ρ ρ') {u v : Value} (h : VR ρ u v) : VR ρ' u v := by
  induction h with
  | bool b => exact .bool b
  | int k n => exact .int k n
  | float k n => exact .float k n
  | complex k a b => exact .complex k a b
  | string s => exact .string s
  | nilPtr => exact .nilPtr
  | ptr o s h => exact .ptr o s (hle _ _ h)
  | nilSlice l k => exact .nilSlice l k
  | slice o l k h => exact .slice o l k (hle _ _ h)
  | sliceX o l k h => exact .sliceX o l k (hle _ _ h)
  | sliceE o o' k i h => exact .sliceE o o' k i (hle _ _ h)
  | nilMap => exact .nilMap
  | map h => exact .map (hle _ _ h)
  | func f h1 _ h2 _ i1 i2 => exact .func f h1 i1 h2 i2
  | yield h => exact .yield (hle _ _ h)
  | nilFunc => exact .nilFunc
  | nilIface => exact .nilIface
  | opq i => exact .opq i
  | opqI i e k n lo hi h1 h2 h3 => exact .opqI i e k n lo hi h1 h2 h3
  | agg h _ ih => exact .agg h ih
  | tuple h _ ih => exact .tuple h ih
/-- lists of them -/
def VRs (ρ : Map) (a b : List Value) : Prop := a.length = b.length ∧ ∀ (i : Nat) u v, a[i]? = some u → b[i]? = some v → VR ρ u v
theorem VRs.mono {ρ ρ' : Map} (hle : Map.le ρ ρ') {a b : List Value} (h : VRs ρ a b) : VRs ρ' a b := ⟨h.1, fun i u v hu hv => (h.2 i u v hu hv).mono hle⟩
theorem VRs.nil (ρ : Map) : VRs ρ [] [] := ⟨rfl, fun i u v h => by simp at h⟩
theorem VRs.cons {ρ : Map} {u v : Value} {a b : List Value} (h : VR ρ u v) (k : VRs ρ a b) : VRs ρ (u :: a) (v :: b) := by
  refine ⟨by simp [k.1], fun i x y hx hy => ?_⟩
  cases i with
  | zero => simp at hx hy; subst hx; subst hy; exact h
  | succ i => simp at hx hy; exact k.2 i x y hx hy
theorem VRs.append {ρ : Map} {a b c d : List Value} (h : VRs ρ a b) (k : VRs ρ c d) : VRs ρ (a ++ c) (b ++ d) := by
  refine ⟨by simp [h.1, k.1], fun i x y hx hy => ?_⟩
  rw [List.getElem?_append] at hx hy
  by_cases hi : i < a.length
  · rw [if_pos hi] at hx; rw [if_pos (by rw [← h.1]; exact hi)] at hy; exact h.2 i x y hx hy
  · rw [if_neg hi] at hx; rw [if_neg (by rw [← h.1]; exact hi)] at hy; rw [← h.1] at hy; exact k.2 _ x y hx hy
theorem VRs.get {ρ : Map} {a b : List Value} (h : VRs ρ a b) {i : Nat} {v : Value} (hv : b[i]? = some v) : ∃ u, a[i]? = some u ∧ VR ρ u v := by
  have hi : i < a.length := by rw [h.1]; exact (List.getElem?_eq_some_iff.1 hv).1
  exact ⟨a[i], by simp [hi], h.2 i _ v (by simp [hi]) hv⟩
theorem VRs.take {ρ : Map} {a b : List Value} (h : VRs ρ a b) (n : Nat) : VRs ρ (a.take n) (b.take n) := by
  refine ⟨by simp [h.1], fun i x y hx hy => ?_⟩
  rw [List.getElem?_take] at hx hy
  split at hx
  · rename_i hi; rw [if_pos hi] at hy; exact h.2 i x y hx hy
  · simp at hx
theorem VRs.drop {ρ : Map} {a b : List Value} (h : VRs ρ a b) (n : Nat) : VRs ρ (a.drop n) (b.drop n) := by
  refine ⟨by simp [h.1], fun i x y hx hy => ?_⟩
  rw [List.getElem?_drop] at hx hy; exact h.2 _ x y hx hy
theorem VRs.of_arr {ρ : Map} {a c : Array Value} (h : a.size = c.size) (k : ∀ (i : Nat) u v, a[i]? = some u → c[i]? = some v → VR ρ u v) : VRs ρ a.toList c.toList :=
  ⟨by simpa using h, fun i u v hu hv => k i u v (by simpa using hu) (by simpa using hv)⟩
theorem VR.agg_of {ρ : Map} {a c : Array Value} (h : VRs ρ a.toList c.toList) : VR ρ (.agg a) (.agg c) := .agg (by simpa using h.1) fun i u v hu hv => h.2 i u v (by simpa using hu) (by simpa using hv)
theorem VR.tuple_of {ρ : Map} {a c : Array Value} (h : VRs ρ a.toList c.toList) : VR ρ (.tuple a) (.tuple c) := .tuple (by simpa using h.1) fun i u v hu hv => h.2 i u v (by simpa using hu) (by simpa using hv)
theorem VR.undef (ρ : Map) : VR ρ (.tuple #[]) undefV := .tuple rfl fun i u v h => by simp at h
/-- the cells of two values -/
theorem VR.cells {ρ : Map} {u v : Value} (h : VR ρ u v) : VRs ρ u.cells.toList (valCells v) := by
  cases h with
  | agg h1 h2 => exact VRs.of_arr h1 h2
  | opq i =>
    have h1 := Opq.one i
    have e : (Opq.val i).cells = #[Opq.val i] := by
      generalize Opq.val i = v at h1
      cases v <;> first | rfl | cases h1
    rw [e]
    exact VRs.cons (.opq i) (VRs.nil ρ)
  | opqI i e k n lo hi h1 h2 h3 => exact VRs.cons (.opqI i e k n lo hi h1 h2 h3) (VRs.nil ρ)
  | _ => exact VRs.cons (by first | exact .bool _ | exact .int _ _ | exact .float _ _ | exact .complex _ _ _ | exact .string _ | exact .nilPtr | exact .nilSlice _ _ | exact .nilMap | exact .nilFunc | exact .nilIface | (apply VR.ptr; assumption) | (apply VR.slice; assumption) | (apply VR.sliceX; assumption) | (apply VR.sliceE; assumption) | (apply VR.map; assumption) | (apply VR.func <;> assumption) | (apply VR.yield; assumption) | (apply VR.tuple <;> assumption)) (VRs.nil ρ)
theorem VR.one {ρ : Map} {u v : Value} (h : VR ρ u v) (hv : oneC v = true) : u.oneCell' = true := by
  cases h with
  | opq i => exact Opq.one i
  | _ => simp_all [oneC, Value.oneCell']
/-- what has no addresses stands for itself -/
theorem VR.plain {ρ : Map} : ∀ (n : Nat) (v : Value), plainV n v = true → VR ρ v v := by
  intro n
  induction n with
  | zero => intro v h; exact absurd h (by simp [plainV])
  | succ n ih =>
    intro v h
    have all : ∀ (l : List Value), l.all (plainV n) = true → VRs ρ l l := by
      intro l hl
      refine ⟨rfl, fun i x y hx hy => ?_⟩
      rw [hx] at hy; injection hy with hy; subst hy
      exact ih x (List.all_eq_true.1 hl x (List.mem_of_getElem? hx))
    cases v with
    | bool b => exact .bool b
    | int k n => exact .int k n
    | float k n => exact .float k n
    | complex k a b => exact .complex k a b
    | string s => exact .string s
    | pointer a => cases a with
      | none => exact .nilPtr
      | some a => exact absurd h (by simp [plainV])
    | slice a l c => cases a with
      | none => exact .nilSlice l c
      | some a => exact absurd h (by simp [plainV])
    | map r => cases r with
      | none => exact .nilMap
      | some a => exact absurd h (by simp [plainV])
    | chan r => exact absurd h (by simp [plainV])
    | func fn a b =>
      cases fn with
      | func f =>
        have e : a = #[] ∧ b = #[] := by
          obtain ⟨la⟩ := a; obtain ⟨lb⟩ := b
          cases la <;> cases lb <;> simp [plainV] at h <;> simp
        obtain ⟨rfl, rfl⟩ := e
        exact .func f rfl (fun i u v h => by simp at h) rfl (fun i u v h => by simp at h)
      | _ => exact absurd h (by simp [plainV])
    | nilFunc => exact .nilFunc
    | iface t v => exact absurd h (by simp [plainV])
    | nilIface => exact .nilIface
    | agg cs => exact .agg_of (all _ h)
    | tuple cs => exact .tuple_of (all _ h)
end Go.Ev
namespace Go.Ev
variable [Opq]
/-- the temporaries -/
def TR (ρ : Map) (nt : Nat) (a : Array Value) (t : Tr Value) : Prop :=
  a.size = nt ∧ (∀ i, i < nt → VR ρ (a.getD i undef) (match Tr.get t (path i) with | some v => v | none => undefV)) ∧ ∀ i, nt ≤ i → Tr.get t (path i) = none
theorem TR.mono {ρ ρ' : Map} {nt : Nat} {a : Array Value} {t : Tr Value} (hle : Map.le ρ ρ') (h : TR ρ nt a t) : TR ρ' nt a t :=
  ⟨h.1, fun i hi => (h.2.1 i hi).mono hle, h.2.2⟩
theorem TR.get {ρ : Map} {nt : Nat} {a : Array Value} {t : Tr Value} (h : TR ρ nt a t) (i : Nat) : VR ρ (a.getD i undef) (match Tr.get t (path i) with | some v => v | none => undefV) := by
  rcases Nat.lt_or_ge i nt with hi | hi
  · exact h.2.1 i hi
  · rw [h.2.2 i hi, Array.getD_eq_getD_getElem?, Array.getElem?_eq_none (by rw [h.1]; exact hi)]; exact VR.undef ρ
theorem TR.put {ρ : Map} {nt : Nat} {a : Array Value} {t : Tr Value} (h : TR ρ nt a t) {d : Nat} (hd : d < nt) {u v : Value} (huv : VR ρ u v) : TR ρ nt (a.setIfInBounds d u) (Tr.set (path d) v t) := by
  refine ⟨by simp [h.1], fun i hi => ?_, fun i hi => ?_⟩
  · rw [Tr.get_set, Array.getD_eq_getD_getElem?]
    by_cases hid : i = d
    · subst hid; rw [if_pos rfl, Array.getElem?_setIfInBounds_self_of_lt (by rw [h.1]; exact hd)]; exact huv
    · rw [if_neg hid, Array.getElem?_setIfInBounds_ne (fun e => hid e.symm), ← Array.getD_eq_getD_getElem?]; exact h.2.1 i hi
  · rw [Tr.get_set, if_neg (by omega)]; exact h.2.2 i hi
theorem TR.put_out {ρ : Map} {nt : Nat} {a : Array Value} {t : Tr Value} (h : TR ρ nt a t) {d : Nat} (hd : nt ≤ d) (u : Value) : TR ρ nt (a.setIfInBounds d u) t := by
  have : a.setIfInBounds d u = a := by simp [Array.setIfInBounds, h.1, Nat.not_lt.2 hd]
  rw [this]; exact h
/-- entries of maps -/
def ER (ρ : Map) (a b : MapEntry) : Prop := VR ρ a.key b.key ∧ VR ρ a.val b.val ∧ a.born = b.born
def ERs (ρ : Map) (a b : List MapEntry) : Prop := a.length = b.length ∧ ∀ (i : Nat) u v, a[i]? = some u → b[i]? = some v → ER ρ u v
theorem ERs.mono {ρ ρ' : Map} (hle : Map.le ρ ρ') {a b : List MapEntry} (h : ERs ρ a b) : ERs ρ' a b :=
  ⟨h.1, fun i u v hu hv => let ⟨x, y, z⟩ := h.2 i u v hu hv; ⟨x.mono hle, y.mono hle, z⟩⟩
/-- a block -/
structure CR (P : Program) (ρ : Map) (x : Nat) (K : Blk) (cs : Array Value) (fr : Nat × Nat) : Prop where
  room : K.size + x * P.cellsOf K.elem ≤ cs.size
  exact : K.exact = true → cs.size = K.size
  froz : ∀ j, fr.1 ≤ j → j < fr.2 → j < K.froz ∨ (K.mark = true ∧ cs.size ≤ j)
  ord : fr.1 ≤ fr.2
  cell : ∀ i v, K.cell i = some v → ∃ u, cs[i]? = some u ∧ VR ρ u v
def OR (P : Program) (ρ : Map) (x : Nat) (a : AObj) (o : Option Obj) : Prop :=
  match a with
  | .cells K => ∃ cs fr, o = some (.cells cs K.elem fr) ∧ CR P ρ x K cs fr
  | .map es clock => ∃ es', o = some (.map es' clock) ∧ ERs ρ es'.toList es
  | .loop nt t ps as bd st pe => ∃ r : Loop, o = some (.loop r) ∧ r.state = st ∧ r.pending = pe ∧ TR ρ nt r.tmps t ∧ r.params.toList = ps ∧ r.assign = as ∧ r.body = bd
  | .dead => True
def AObj.live : AObj → Prop
  | .dead => False
  | _ => True
theorem CR.mono {P : Program} {ρ ρ' : Map} {x : Nat} {K : Blk} {cs : Array Value} {fr : Nat × Nat} (hle : Map.le ρ ρ') (h : CR P ρ x K cs fr) : CR P ρ' x K cs fr :=
  ⟨h.room, h.exact, h.froz, h.ord, fun i v hv => let ⟨u, a, b⟩ := h.cell i v hv; ⟨u, a, b.mono hle⟩⟩
theorem OR.mono {P : Program} {ρ ρ' : Map} {x : Nat} {a : AObj} {o : Option Obj} (hle : Map.le ρ ρ') (h : OR P ρ x a o) : OR P ρ' x a o := by
  cases a with
  | cells K => obtain ⟨cs, fr, e, hc⟩ := h; exact ⟨cs, fr, e, hc.mono hle⟩
  | map es c => obtain ⟨es', e, hc⟩ := h; exact ⟨es', e, hc.mono hle⟩
  | loop nt t ps as bd st pe => obtain ⟨r, e1, e2, e3, e4, e5⟩ := h; exact ⟨r, e1, e2, e3, e4.mono hle, e5⟩
  | dead => exact h
theorem old_of {B : Nat} {w0 w w' : World} (h : RowKit.Below B w0 w) (h1 : w'.os = w.os) (h2 : w'.tape = w.tape) (h3 : w'.output = w.output) (h4 : w.heap.size ≤ w'.heap.size) (h5 : ∀ c, c < B → w'.heap[c]? = w.heap[c]?) : RowKit.Below B w0 w' :=
  ⟨h1.trans h.os, h2.trans h.tape, h3.trans h.output, Nat.le_trans h.size h4, fun c hc => (h5 c hc).trans (h.block c hc)⟩
structure HR (P : Program) (ρ : Map) (B : Nat) (h : AH) (w : World) : Prop where
  lt : ∀ b c x, ρ b = some (c, x) → B ≤ c ∧ c < w.heap.size
  obj : ∀ b o, Tr.get h.blocks (path b) = some o → o.live → ∃ c x, ρ b = some (c, x) ∧ OR P ρ x o w.heap[c]?
  dom : ∀ b o, Tr.get h.blocks (path b) = some o → b < h.next
  inj : ∀ b b' o o' c x x', Tr.get h.blocks (path b) = some o → Tr.get h.blocks (path b') = some o' → o.live → o'.live → ρ b = some (c, x) → ρ b' = some (c, x') → b ≠ b' →
    ∃ K K', o = .cells K ∧ o' = .cells K' ∧ K.fam = K'.fam
  fams : ∀ b K, Tr.get h.blocks (path b) = some (.cells K) → b ∈ h.fam K.fam
  fl : ∀ b K, Tr.get h.blocks (path b) = some (.cells K) → K.fam < h.next
  base : B ≤ w.heap.size
  tops : ∀ b K, Tr.get h.blocks (path b) = some (.cells K) → K.size ≤ h.top K.fam
  old : RowKit.Below B Opq.w0 w
def Tracked (ρ : Map) (h : AH) (c : Nat) : Prop := ∃ b x o, Tr.get h.blocks (path b) = some o ∧ o.live ∧ ρ b = some (c, x)
structure Step (ρ : Map) (h : AH) (w : World) (ρ' : Map) (h' : AH) (w' : World) : Prop where
  le : Map.le ρ ρ'
  new : ∀ b, ρ b = none → ρ' b ≠ none → h.next ≤ b ∧ b < h'.next
  next : h.next ≤ h'.next
  size : w.heap.size ≤ w'.heap.size
  os : w'.os = w.os
  tape : w'.tape = w.tape
  output : w'.output = w.output
  keep : ∀ c, c < w.heap.size → ¬ Tracked ρ h c → w'.heap[c]? = w.heap[c]? ∧ ¬ Tracked ρ' h' c
theorem Step.refl (ρ : Map) (h : AH) (w : World) : Step ρ h w ρ h w :=
  ⟨Map.le_refl ρ, fun _ h1 h2 => absurd h1 h2, Nat.le_refl _, Nat.le_refl _, rfl, rfl, rfl, fun _ _ h => ⟨rfl, h⟩⟩
theorem Step.trans {ρ ρ₁ ρ₂ : Map} {h h₁ h₂ : AH} {w w₁ w₂ : World} (a : Step ρ h w ρ₁ h₁ w₁) (b : Step ρ₁ h₁ w₁ ρ₂ h₂ w₂) : Step ρ h w ρ₂ h₂ w₂ := by
  refine ⟨Map.le_trans a.le b.le, fun i h1 h2 => ?_, Nat.le_trans a.next b.next, Nat.le_trans a.size b.size, b.os.trans a.os, b.tape.trans a.tape, b.output.trans a.output, fun c hc ht => ?_⟩
  · cases h3 : ρ₁ i with
    | none => have := b.new i h3 h2; have := a.next; omega
    | some p => have := a.new i h1 (by rw [h3]; simp); have := b.next; omega
  · obtain ⟨e1, t1⟩ := a.keep c hc ht
    obtain ⟨e2, t2⟩ := b.keep c (Nat.lt_of_lt_of_le hc a.size) t1
    exact ⟨e2.trans e1, t2⟩
/-- a draw turns nothing -/
theorem Step.drew (ρ : Map) (h : AH) (w : World) (n : Nat) : Step ρ h w ρ h { w with drawn := n } :=
  ⟨Map.le_refl ρ, fun _ h1 h2 => absurd h1 h2, Nat.le_refl _, Nat.le_refl _, rfl, rfl, rfl, fun _ _ h => ⟨rfl, h⟩⟩
theorem HR.drew {P : Program} {ρ : Map} {B : Nat} {h : AH} {w : World} (a : HR P ρ B h w) (n : Nat) : HR P ρ B h { w with drawn := n } := ⟨a.lt, a.obj, a.dom, a.inj, a.fams, a.fl, a.base, a.tops, old_of a.old rfl rfl rfl (Nat.le_refl _) (fun _ _ => rfl)⟩
theorem HR.mono_map {P : Program} {ρ ρ' : Map} {B : Nat} {h : AH} {w : World} (a : HR P ρ B h w) (hle : Map.le ρ ρ') (hlt : ∀ b c x, ρ' b = some (c, x) → B ≤ c ∧ c < w.heap.size) : HR P ρ' B h w := by
  refine ⟨hlt, fun b o ho hl => ?_, a.dom, fun b b' o o' c x x' ho ho' hl hl' hb hb' hne => ?_, a.fams, a.fl, a.base, a.tops, a.old⟩
  · obtain ⟨c, x, e, k⟩ := a.obj b o ho hl; exact ⟨c, x, hle _ _ e, k.mono hle⟩
  · obtain ⟨c1, x1, e1, _⟩ := a.obj b o ho hl
    obtain ⟨c2, x2, e2, _⟩ := a.obj b' o' ho' hl'
    have f1 := hle _ _ e1; have f2 := hle _ _ e2
    rw [hb] at f1; rw [hb'] at f2
    injection f1 with f1; injection f2 with f2
    cases f1; cases f2
    exact a.inj b b' o o' _ _ _ ho ho' hl hl' e1 e2 hne
/-! a new block -/
def Map.set (ρ : Map) (n : Nat) (p : Nat × Nat) : Map := fun b => if b = n then some p else ρ b
theorem Map.le_set {ρ : Map} {n : Nat} {p : Nat × Nat} (h : ρ n = none) : Map.le ρ (ρ.set n p) := by
  intro b q hq
  unfold Map.set
  by_cases e : b = n
  · subst e; rw [h] at hq; cases hq
  · rw [if_neg e]; exact hq
theorem push_old {w : World} {o : Obj} {c : Nat} (h : c < w.heap.size) : (w.alloc o).heap[c]? = w.heap[c]? := by
  show (w.heap.push o)[c]? = _
  rw [Array.getElem?_push, if_neg (by omega)]
theorem push_new (w : World) (o : Obj) : (w.alloc o).heap[w.heap.size]? = some o := by
  show (w.heap.push o)[w.heap.size]? = _
  simp
/-- a new object under the next number -/
theorem HR.add {P : Program} {ρ : Map} {B : Nat} {h : AH} {w : World} (a : HR P ρ B h w) (hf : ρ h.next = none) (o : AObj) (c : Obj) (x : Nat) (fams : Tr (Nat × List Nat))
    (hk : OR P (ρ.set h.next (w.heap.size, x)) x o (some c))
    (hfam : ∀ f, f ≠ h.next → Tr.get fams (path f) = Tr.get h.fams (path f))
    (hown : ∀ K, o = .cells K → K.fam = h.next ∧ Tr.get fams (path h.next) = some (K.size, [h.next])) :
    HR P (ρ.set h.next (w.heap.size, x)) B ⟨Tr.set (path h.next) o h.blocks, h.next + 1, fams⟩ (w.alloc c) ∧
    Step ρ h w (ρ.set h.next (w.heap.size, x)) ⟨Tr.set (path h.next) o h.blocks, h.next + 1, fams⟩ (w.alloc c) := by
  have hB := a.base
  have hold : ∀ b K, Tr.get h.blocks (path b) = some (.cells K) → K.fam ≠ h.next := fun b K hb e => by have := a.fl b K hb; omega
  have hle : Map.le ρ (ρ.set h.next (w.heap.size, x)) := Map.le_set hf
  have get : ∀ b, Tr.get (Tr.set (path h.next) o h.blocks) (path b) = if b = h.next then some o else Tr.get h.blocks (path b) := fun b => Tr.get_set _ _ _ _
  have old : ∀ b o', Tr.get h.blocks (path b) = some o' → b ≠ h.next := fun b o' hb e => by have := a.dom b o' hb; omega
  have fold : ∀ b c' x', b ≠ h.next → (ρ.set h.next (w.heap.size, x)) b = some (c', x') → ρ b = some (c', x') := fun b c' x' hb h => by simpa [Map.set, hb] using h
  have fnew : ∀ c' x', (ρ.set h.next (w.heap.size, x)) h.next = some (c', x') → c' = w.heap.size := fun c' x' h => by simp [Map.set] at h; exact h.1.symm
  refine ⟨⟨?_, ?_, ?_, ?_, ?_, ?_, by simp; omega, ?_, old_of a.old rfl rfl rfl (by show w.heap.size ≤ (w.heap.push c).size; simp) (fun c' hc' => push_old (Nat.lt_of_lt_of_le hc' hB))⟩, ⟨hle, ?_, Nat.le_succ _, by simp, rfl, rfl, rfl, ?_⟩⟩
  · intro b c' x' hb
    by_cases e : b = h.next
    · subst e; rw [fnew _ _ hb]; exact ⟨hB, by simp⟩
    · have := a.lt b c' x' (fold b c' x' e hb); exact ⟨this.1, by simp; omega⟩
  · intro b o' hb hl
    simp only [get] at hb
    by_cases e : b = h.next
    · subst e; rw [if_pos rfl] at hb; injection hb with hb; subst hb
      exact ⟨w.heap.size, x, by simp [Map.set], by rw [push_new]; exact hk⟩
    · rw [if_neg e] at hb
      obtain ⟨c', x', e1, k1⟩ := a.obj b o' hb hl
      exact ⟨c', x', hle _ _ e1, by rw [push_old (a.lt _ _ _ e1).2]; exact k1.mono hle⟩
  · intro b o' hb
    simp only [get] at hb
    by_cases e : b = h.next
    · subst e; exact Nat.lt_succ_self _
    · rw [if_neg e] at hb; have := a.dom b o' hb; exact Nat.lt_succ_of_lt this
  · intro b b' o1 o2 c' x1 x2 h1 h2 l1 l2 r1 r2 hne
    simp only [get] at h1 h2
    by_cases e1 : b = h.next
    · by_cases e2 : b' = h.next
      · exact absurd (e1.trans e2.symm) hne
      · subst e1
        have := a.lt _ _ _ (fold b' _ _ e2 r2)
        rw [fnew _ _ r1] at this; omega
    · by_cases e2 : b' = h.next
      · subst e2
        have := a.lt _ _ _ (fold b _ _ e1 r1)
        rw [fnew _ _ r2] at this; omega
      · rw [if_neg e1] at h1; rw [if_neg e2] at h2
        exact a.inj b b' o1 o2 c' x1 x2 h1 h2 l1 l2 (fold _ _ _ e1 r1) (fold _ _ _ e2 r2) hne
  · intro b K hb
    simp only [get] at hb
    show b ∈ (match Tr.get fams (path K.fam) with | some l => l.2 | none => [])
    by_cases e : b = h.next
    · subst e; rw [if_pos rfl] at hb; injection hb with hb
      obtain ⟨f1, f2⟩ := hown K hb
      rw [f1, f2]; simp
    · rw [if_neg e] at hb
      rw [hfam K.fam (hold b K hb)]
      exact a.fams b K hb
  · intro b K hb
    simp only [get] at hb
    show K.fam < h.next + 1
    by_cases e : b = h.next
    · subst e; rw [if_pos rfl] at hb; injection hb with hb
      have := (hown K hb).1; omega
    · rw [if_neg e] at hb; have := a.fl b K hb; omega
  · intro b K hb
    simp only [get] at hb
    show K.size ≤ (match Tr.get fams (path K.fam) with | some l => l.1 | none => 0)
    by_cases e : b = h.next
    · subst e; rw [if_pos rfl] at hb; injection hb with hb
      obtain ⟨f1, f2⟩ := hown K hb
      rw [f1, f2]; exact Nat.le_refl _
    · rw [if_neg e] at hb
      rw [hfam K.fam (hold b K hb)]
      exact a.tops b K hb
  · intro b h1 h2
    by_cases e : b = h.next
    · subst e; exact ⟨Nat.le_refl _, Nat.lt_succ_self _⟩
    · exact absurd (by simpa [Map.set, e] using h1) (by simpa [Map.set, e] using h2)
  · intro c' hc' ht
    refine ⟨push_old hc', ?_⟩
    rintro ⟨b, x', o', hb, hl, hr⟩
    simp only [get] at hb
    by_cases e : b = h.next
    · subst e; have := fnew _ _ hr; omega
    · rw [if_neg e] at hb
      exact ht ⟨b, x', o', hb, hl, fold _ _ _ e hr⟩
/-! what is killed -/
theorem killL_nil (b off : Nat) (t : Tr AObj) : killL b off [] t = t := rfl
theorem killL_cons (b off i : Nat) (l : List Nat) (t : Tr AObj) : killL b off (i :: l) t =
    bif Nat.beq i b then killL b off l t else match Tr.get t (path i) with
      | some (.cells B) => bif Nat.blt off B.size then killL b off l (Tr.set (path i) .dead t) else killL b off l t
      | _ => killL b off l t := rfl
theorem killL_get (b off : Nat) : ∀ (l : List Nat) (t : Tr AObj) (j : Nat),
    (Tr.get (killL b off l t) (path j) = Tr.get t (path j) ∧ (j ∈ l → j ≠ b → ∀ K, Tr.get t (path j) = some (.cells K) → K.size ≤ off)) ∨
    (j ≠ b ∧ Tr.get (killL b off l t) (path j) = some .dead ∧ ∃ K, Tr.get t (path j) = some (.cells K)) := by
  intro l
  induction l with
  | nil => intro t j; exact .inl ⟨rfl, fun h => by cases h⟩
  | cons i l ih =>
    intro t j
    rw [killL_cons]
    cases hib : Nat.beq i b with
    | true =>
      have hib' : i = b := Nat.eq_of_beq_eq_true hib
      simp only [cond_true]
      rcases ih t j with ⟨h1, h2⟩ | h
      · refine .inl ⟨h1, fun hj hne => ?_⟩
        rcases List.mem_cons.1 hj with e | hj
        · exact absurd (e.trans hib') hne
        · exact h2 hj hne
      · exact .inr h
    | false =>
      have hib' : i ≠ b := fun e => by rw [e, Nat.beq_refl] at hib; cases hib
      simp only [cond_false]
      have other : (∀ K, Tr.get t (path i) = some (.cells K) → K.size ≤ off) → _ := fun hs => ih t j |>.imp
        (fun (h : Tr.get (killL b off l t) (path j) = Tr.get t (path j) ∧ (j ∈ l → j ≠ b → ∀ K, Tr.get t (path j) = some (.cells K) → K.size ≤ off)) =>
          (⟨h.1, fun hj hne K hK => by rcases List.mem_cons.1 hj with e | hj; · subst e; exact hs K hK
                                       · exact h.2 hj hne K hK⟩ :
            Tr.get (killL b off l t) (path j) = Tr.get t (path j) ∧ (j ∈ i :: l → j ≠ b → ∀ K, Tr.get t (path j) = some (.cells K) → K.size ≤ off))) id
      cases hg : Tr.get t (path i) with
      | none => exact other (fun K hK => by rw [hg] at hK; cases hK)
      | some o =>
        cases o with
        | cells K0 =>
          simp only []
          cases hlt : Nat.blt off K0.size with
          | false =>
            simp only [cond_false]
            refine other (fun K hK => ?_)
            rw [hg] at hK; injection hK with hK; injection hK with hK; subst hK
            have : ¬ off < K0.size := fun hh => by
              have : Nat.blt off K0.size = true := by simpa [Nat.blt_eq] using hh
              rw [hlt] at this; cases this
            omega
          | true =>
            simp only [cond_true]
            by_cases hji : j = i
            · subst hji
              rcases ih (Tr.set (path j) .dead t) j with ⟨h1, _⟩ | ⟨_, _, K, hK⟩
              · refine .inr ⟨hib', ?_, K0, hg⟩
                rw [h1, Tr.get_set, if_pos rfl]
              · rw [Tr.get_set, if_pos rfl] at hK; cases hK
            · rcases ih (Tr.set (path i) .dead t) j with ⟨h1, h2⟩ | ⟨h1, h2, K, hK⟩
              · rw [Tr.get_set, if_neg hji] at h1
                refine .inl ⟨h1, fun hj hne K hK => ?_⟩
                rcases List.mem_cons.1 hj with e | hj
                · exact absurd e hji
                · exact h2 hj hne K (by rw [Tr.get_set, if_neg hji]; exact hK)
              · rw [Tr.get_set, if_neg hji] at hK
                exact .inr ⟨h1, h2, K, hK⟩
        | map es c => exact other (fun K hK => by rw [hg] at hK; cases hK)
        | loop nt t' ps as bd st pe => exact other (fun K hK => by rw [hg] at hK; cases hK)
        | dead => exact other (fun K hK => by rw [hg] at hK; cases hK)
theorem kill_get (h : AH) (f b off j : Nat) :
    (Tr.get (kill h f b off) (path j) = Tr.get h.blocks (path j) ∧ (j ∈ h.fam f → j ≠ b → ∀ K, Tr.get h.blocks (path j) = some (.cells K) → K.size ≤ off)) ∨
    (j ≠ b ∧ Tr.get (kill h f b off) (path j) = some .dead ∧ ∃ K, Tr.get h.blocks (path j) = some (.cells K)) := by
  unfold kill
  cases hl : h.fam f with
  | nil => exact .inl ⟨rfl, fun h => by cases h⟩
  | cons i l =>
    cases l with
    | nil =>
      simp only []
      cases hib : Nat.beq i b with
      | true =>
        refine .inl ⟨rfl, fun hj hne => ?_⟩
        have : i = b := Nat.eq_of_beq_eq_true hib
        simp at hj; omega
      | false => exact killL_get b off [i] h.blocks j
    | cons i2 l => exact killL_get b off (i :: i2 :: l) h.blocks j
end Go.Ev
namespace Go.Ev
variable [Opq]
def _root_.Go.World.putAt (w : World) (c : Nat) (o : Obj) : World := { w with heap := w.heap.setIfInBounds c o }
theorem putAt_get {w : World} {c : Nat} {o : Obj} (h : c < w.heap.size) (j : Nat) : (w.putAt c o).heap[j]? = if j = c then some o else w.heap[j]? := by
  show (w.heap.setIfInBounds c o)[j]? = _
  by_cases e : j = c
  · subst e; rw [if_pos rfl, Array.getElem?_setIfInBounds_self_of_lt h]
  · rw [if_neg e, Array.getElem?_setIfInBounds_ne (fun x => e x.symm)]
@[simp] theorem putAt_size (w : World) (c : Nat) (o : Obj) : (w.putAt c o).heap.size = w.heap.size := by simp [World.putAt]
/-- a block turned into another one -/
theorem HR.upd {P : Program} {ρ : Map} {B : Nat} {h : AH} {w : World} (a : HR P ρ B h w) {b c x : Nat} {o : AObj} (hb : Tr.get h.blocks (path b) = some o) (hl : o.live) (hr : ρ b = some (c, x))
    (o' : AObj) (c' : Obj) (t' : Tr AObj) (h1 : Tr.get t' (path b) = some o') (k : OR P ρ x o' (some c'))
    (h2 : ∀ j, j ≠ b → Tr.get t' (path j) = Tr.get h.blocks (path j) ∨ (Tr.get t' (path j) = some .dead ∧ ∃ q, Tr.get h.blocks (path j) = some q))
    (h3 : ∀ j oj xj, j ≠ b → Tr.get t' (path j) = some oj → oj.live → ρ j = some (c, xj) → OR P ρ xj oj (some c'))
    (h4 : ∀ K, o = .cells K → ∃ K', o' = .cells K' ∧ K'.fam = K.fam) (h5 : ∀ K', o' = .cells K' → ∃ K, o = .cells K ∧ K'.fam = K.fam ∧ K'.size = K.size) :
    HR P ρ B ⟨t', h.next, h.fams⟩ (w.putAt c c') ∧ Step ρ h w ρ ⟨t', h.next, h.fams⟩ (w.putAt c c') := by
  have hc := (a.lt _ _ _ hr).2
  have back : ∀ j oj, Tr.get t' (path j) = some oj → oj.live → j ≠ b → Tr.get h.blocks (path j) = some oj := by
    intro j oj hj hlj hne
    rcases h2 j hne with e | ⟨e, _⟩
    · rw [← e]; exact hj
    · rw [e] at hj; injection hj with hj; subst hj; exact hlj.elim
  refine ⟨⟨fun i ci xi hi => by have := a.lt i ci xi hi; simpa using this, ?_, ?_, ?_, ?_, ?_, by simpa using a.base, ?_, old_of a.old rfl rfl rfl (by simp) (fun d hd => by rw [putAt_get hc, if_neg (by have := (a.lt _ _ _ hr).1; omega)])⟩, ⟨Map.le_refl ρ, fun _ e1 e2 => absurd e1 e2, Nat.le_refl _, by simp, rfl, rfl, rfl, ?_⟩⟩
  · intro j oj hj hlj
    by_cases e : j = b
    · subst e; rw [h1] at hj; injection hj with hj; subst hj
      exact ⟨c, x, hr, by rw [putAt_get hc, if_pos rfl]; exact k⟩
    · obtain ⟨cj, xj, ej, kj⟩ := a.obj j oj (back j oj hj hlj e) hlj
      refine ⟨cj, xj, ej, ?_⟩
      rw [putAt_get hc]
      by_cases ec : cj = c
      · subst ec; rw [if_pos rfl]; exact h3 j oj xj e hj hlj ej
      · rw [if_neg ec]; exact kj
  · intro j oj hj
    by_cases e : j = b
    · subst e; exact a.dom _ _ hb
    · rcases h2 j e with e1 | ⟨_, q, hq⟩
      · exact a.dom j oj (by rw [← e1]; exact hj)
      · exact a.dom j q hq
  · intro j j' oj oj' ci xi xi' hj hj' hlj hlj' hrj hrj' hne
    by_cases e : j = b
    · subst e; rw [h1] at hj; injection hj with hj; subst hj
      obtain ⟨K, K', e1, e2, e3⟩ := a.inj j j' o oj' ci xi xi' hb (back j' oj' hj' hlj' (fun e => hne e.symm)) hl hlj' hrj hrj' hne
      obtain ⟨K2, e4, e5⟩ := h4 K e1
      exact ⟨K2, K', e4, e2, e5.trans e3⟩
    · by_cases e' : j' = b
      · subst e'; rw [h1] at hj'; injection hj' with hj'; subst hj'
        obtain ⟨K, K', e1, e2, e3⟩ := a.inj j j' oj o ci xi xi' (back j oj hj hlj e) hb hlj hl hrj hrj' hne
        obtain ⟨K2, e4, e5⟩ := h4 K' e2
        exact ⟨K, K2, e1, e4, e3.trans e5.symm⟩
      · exact a.inj j j' oj oj' ci xi xi' (back j oj hj hlj e) (back j' oj' hj' hlj' e') hlj hlj' hrj hrj' hne
  · intro j K hj
    show j ∈ h.fam K.fam
    by_cases e : j = b
    · subst e; rw [h1] at hj; injection hj with hj
      obtain ⟨K0, e1, e2, _⟩ := h5 K hj
      rw [e2]; exact a.fams j K0 (by rw [hb, e1])
    · exact a.fams j K (back j _ hj trivial e)
  · intro j K hj
    show K.fam < h.next
    by_cases e : j = b
    · subst e; rw [h1] at hj; injection hj with hj
      obtain ⟨K0, e1, e2, _⟩ := h5 K hj
      rw [e2]; exact a.fl j K0 (by rw [hb, e1])
    · exact a.fl j K (back j _ hj trivial e)
  · intro j K hj
    show K.size ≤ h.top K.fam
    by_cases e : j = b
    · subst e; rw [h1] at hj; injection hj with hj
      obtain ⟨K0, e1, e2, e3⟩ := h5 K hj
      rw [e2, e3]; exact a.tops j K0 (by rw [hb, e1])
    · exact a.tops j K (back j _ hj trivial e)
  · intro d hd ht
    have hdc : d ≠ c := fun e => ht ⟨b, x, o, hb, hl, by rw [e]; exact hr⟩
    refine ⟨by rw [putAt_get hc, if_neg hdc], ?_⟩
    rintro ⟨j, xj, oj, hj, hlj, hrj⟩
    by_cases e : j = b
    · subst e; rw [hr] at hrj; injection hrj with hrj; cases hrj; exact hdc rfl
    · exact ht ⟨j, xj, oj, back j oj hj hlj e, hlj, hrj⟩
/-! reading -/
theorem AH.blk_some {h : AH} {b : Nat} {K : Blk} (e : h.blk b = some K) : Tr.get h.blocks (path b) = some (.cells K) := by
  unfold AH.blk at e
  cases hg : Tr.get h.blocks (path b) with
  | none => rw [hg] at e; cases e
  | some o => cases o <;> rw [hg] at e <;> simp at e; rw [e]
theorem cell_of_row {w : World} {c i : Nat} {cs : Array Value} {e : TypeId} {fr : Nat × Nat} (h : w.heap[c]? = some (.cells cs e fr)) : w.cell? ⟨c, i, none⟩ = cs[i]? := by
  unfold World.cell?; rw [h]; rfl
theorem frozen_of_row {w : World} {c i : Nat} {cs : Array Value} {e : TypeId} {fr : Nat × Nat} (h : w.heap[c]? = some (.cells cs e fr)) : w.frozen? ⟨c, i, none⟩ = (decide (fr.1 ≤ i) && decide (i < fr.2)) := by
  unfold World.frozen?; rw [h]
theorem HR.row {P : Program} {ρ : Map} {B : Nat} {h : AH} {w : World} (a : HR P ρ B h w) {b c x : Nat} {K : Blk} (hr : ρ b = some (c, x)) (hk : h.blk b = some K) :
    ∃ cs fr, w.heap[c]? = some (.cells cs K.elem fr) ∧ CR P ρ x K cs fr := by
  obtain ⟨c', x', e, cs, fr, hc, hcr⟩ := a.obj b _ (AH.blk_some hk) trivial
  rw [hr] at e; injection e with e; cases e
  exact ⟨cs, fr, hc, hcr⟩
theorem AH.cell_some {h : AH} {b i : Nat} {v : Value} (e : h.cell b i = some v) : ∃ K, h.blk b = some K ∧ K.cell i = some v := by
  unfold AH.cell at e
  cases hk : h.blk b with
  | none => rw [hk] at e; cases e
  | some K => rw [hk] at e; exact ⟨K, rfl, e⟩
theorem HR.cell {P : Program} {ρ : Map} {B : Nat} {h : AH} {w : World} (a : HR P ρ B h w) {b c x i : Nat} {v : Value} (hr : ρ b = some (c, x)) (hv : h.cell b i = some v) :
    ∃ u, w.cell? ⟨c, i, none⟩ = some u ∧ VR ρ u v := by
  obtain ⟨K, hk, hv⟩ := AH.cell_some hv
  obtain ⟨cs, fr, hc, hcr⟩ := a.row hr hk
  obtain ⟨u, hu, hvr⟩ := hcr.cell i v hv
  exact ⟨u, by rw [cell_of_row hc]; exact hu, hvr⟩
theorem Blk.cellsOf_zero (K : Blk) (o : Nat) : K.cellsOf 0 o = some [] := rfl
theorem Blk.cellsOf_succ (K : Blk) (n o : Nat) : K.cellsOf (n + 1) o = match K.cell o with
    | none => none
    | some v => match K.cellsOf n (o + 1) with
      | none => none
      | some l => some (v :: l) := rfl
theorem Blk.cellsOf_spec (K : Blk) : ∀ (n o : Nat) (l : List Value), K.cellsOf n o = some l → l.length = n ∧ ∀ j, j < n → ∃ v, l[j]? = some v ∧ K.cell (o + j) = some v := by
  intro n
  induction n with
  | zero => intro o l h; rw [Blk.cellsOf_zero] at h; injection h with h; subst h; exact ⟨rfl, fun j hj => by omega⟩
  | succ n ih =>
    intro o l h
    rw [Blk.cellsOf_succ] at h
    cases hc : K.cell o with
    | none => rw [hc] at h; cases h
    | some v =>
      rw [hc] at h
      cases hr : K.cellsOf n (o + 1) with
      | none => rw [hr] at h; cases h
      | some r =>
        rw [hr] at h
        simp only [Option.some.injEq] at h
        subst h
        obtain ⟨h1, h2⟩ := ih _ _ hr
        refine ⟨by simp [h1], fun j hj => ?_⟩
        cases j with
        | zero => exact ⟨v, rfl, hc⟩
        | succ j =>
          obtain ⟨u, e1, e2⟩ := h2 j (by omega)
          exact ⟨u, by simpa using e1, by rw [show o + (j + 1) = o + 1 + j by omega]; exact e2⟩
theorem HR.blkCells {P : Program} {ρ : Map} {B : Nat} {h : AH} {w : World} (a : HR P ρ B h w) {b c x o n : Nat} {K : Blk} {l : List Value} (hr : ρ b = some (c, x)) (hk : h.blk b = some K) (hl : K.cellsOf n o = some l) :
    ∃ us, VRs ρ us l ∧ us.length = n ∧ ∀ (j : Nat) u, us[j]? = some u → w.cell? ⟨c, o + j, none⟩ = some u := by
  obtain ⟨cs, fr, hc, hcr⟩ := a.row hr hk
  obtain ⟨h1, h2⟩ := K.cellsOf_spec n o l hl
  have key : ∀ j, j < n → ∃ u, cs[o + j]? = some u := fun j hj => by
    obtain ⟨v, _, e2⟩ := h2 j hj
    obtain ⟨u, e3, _⟩ := hcr.cell _ _ e2
    exact ⟨u, e3⟩
  refine ⟨(List.range n).map fun j => (cs[o + j]?).getD undef, ⟨by simp [h1], fun i u v hu hv => ?_⟩, by simp, fun j u hu => ?_⟩
  · have hi : i < n := by have := (List.getElem?_eq_some_iff.1 hu).1; simpa using this
    simp [hi] at hu
    obtain ⟨v', e1, e2⟩ := h2 i hi
    rw [hv] at e1; injection e1 with e1; subst e1
    obtain ⟨u', e3, e4⟩ := hcr.cell _ _ e2
    rw [e3] at hu; simp at hu; subst hu; exact e4
  · have hj : j < n := by have := (List.getElem?_eq_some_iff.1 hu).1; simpa using this
    simp [hj] at hu
    obtain ⟨u', e3⟩ := key j hj
    rw [cell_of_row hc, e3]
    rw [e3] at hu; simp at hu; rw [hu]
theorem HR.cellsOf {P : Program} {ρ : Map} {B : Nat} {h : AH} {w : World} (a : HR P ρ B h w) {b c x o n : Nat} {l : List Value} (hr : ρ b = some (c, x)) (hl : h.cellsOf b o n = some l) :
    ∃ us, VRs ρ us l ∧ us.length = n ∧ ∀ (j : Nat) u, us[j]? = some u → w.cell? ⟨c, o + j, none⟩ = some u := by
  unfold AH.cellsOf at hl
  cases n with
  | zero => simp only [Option.some.injEq] at hl; subst hl; exact ⟨[], VRs.nil ρ, rfl, fun j u h => by simp at h⟩
  | succ n =>
    simp only [] at hl
    cases hk : h.blk b with
    | none => rw [hk] at hl; cases hl
    | some K => rw [hk] at hl; exact a.blkCells hr hk hl
theorem addr_add (c o i : Nat) : (⟨c, o, none⟩ : Addr).add i = ⟨c, o + i, none⟩ := by
  unfold Addr.add; split <;> simp_all
theorem run_cells {P : Program} {w : World} {c o : Nat} {us : List Value} (h : ∀ (j : Nat) u, us[j]? = some u → w.cell? ⟨c, o + j, none⟩ = some u) :
    (loadCells ⟨c, o, none⟩ us.length).run P w = .ok ⟨us⟩ w := by
  rw [run_loadCells_list (P := P) (w := w) ⟨c, o, none⟩ us (fun j v hv => by rw [addr_add]; exact h j v hv)]
/-! writing -/
def splA (cs : Array Value) (o : Nat) : List Value → Array Value
  | [] => cs
  | u :: us => splA (cs.setIfInBounds o u) (o + 1) us
theorem splA_size : ∀ (us : List Value) (cs : Array Value) (o : Nat), (splA cs o us).size = cs.size
  | [], _, _ => rfl
  | u :: us, cs, o => by rw [splA, splA_size us]; simp
theorem splA_get : ∀ (us : List Value) (cs : Array Value) (o j : Nat), o + us.length ≤ cs.size → (splA cs o us)[j]? = if o ≤ j ∧ j < o + us.length then us[j - o]? else cs[j]?
  | [], cs, o, j, _ => by rw [splA, if_neg (by simp)]
  | u :: us, cs, o, j, h => by
    simp only [List.length_cons] at h
    rw [splA, splA_get us _ _ _ (by simp; omega)]
    simp only [List.length_cons]
    by_cases h1 : o + 1 ≤ j ∧ j < o + 1 + us.length
    · rw [if_pos h1, if_pos (by omega), show j - o = (j - (o + 1)) + 1 by omega, List.getElem?_cons_succ]
    · rw [if_neg h1]
      by_cases h2 : j = o
      · subst h2; rw [if_pos (by omega), Array.getElem?_setIfInBounds_self_of_lt (by omega)]; simp
      · rw [if_neg (by omega), Array.getElem?_setIfInBounds_ne (fun e => h2 e.symm)]
theorem setCell_row {w : World} {c i : Nat} {cs : Array Value} {e : TypeId} {fr : Nat × Nat} (h : w.heap[c]? = some (.cells cs e fr)) (u : Value) :
    w.setCell ⟨c, i, none⟩ u = w.putAt c (.cells (cs.setIfInBounds i u) e fr) := by
  have hc : c < w.heap.size := (Array.getElem?_eq_some_iff.1 h).1
  unfold World.setCell World.putAt
  congr 1
  apply Array.ext_getElem?
  intro j
  rw [Array.getElem?_modify]
  by_cases ej : c = j
  · subst ej; rw [if_pos rfl, h, Array.getElem?_setIfInBounds_self_of_lt hc]; rfl
  · rw [if_neg ej, Array.getElem?_setIfInBounds_ne ej]
theorem putAt_putAt (w : World) (c : Nat) (o o' : Obj) : (w.putAt c o).putAt c o' = w.putAt c o' := by
  unfold World.putAt; simp [Array.setIfInBounds_setIfInBounds]
theorem putAt_self {w : World} {c : Nat} {o : Obj} (h : w.heap[c]? = some o) : w.putAt c o = w := by
  unfold World.putAt
  have : w.heap.setIfInBounds c o = w.heap := by
    apply Array.ext_getElem?
    intro j
    by_cases ej : c = j
    · subst ej; rw [Array.getElem?_setIfInBounds_self_of_lt ((Array.getElem?_eq_some_iff.1 h).1), h]
    · rw [Array.getElem?_setIfInBounds_ne ej]
  rw [this]
theorem run_storeCells {P : Program} {c o : Nat} {e : TypeId} {fr : Nat × Nat} : ∀ (us : List Value) (i : Nat) (w : World) (cs : Array Value), w.heap[c]? = some (.cells cs e fr) → o + i + us.length ≤ cs.size →
    (∀ j, o + i ≤ j → j < o + i + us.length → ¬ (fr.1 ≤ j ∧ j < fr.2)) → (∀ u ∈ us, u.oneCell' = true) →
    (storeCells ⟨c, o, none⟩ us i).run P w = .ok () (w.putAt c (.cells (splA cs (o + i) us) e fr))
  | [], i, w, cs, h, _, _, _ => by rw [storeCells, splA, putAt_self h]; rfl
  | u :: us, i, w, cs, h, hs, hf, h1 => by
    simp only [List.length_cons] at hs hf
    have hc : c < w.heap.size := (Array.getElem?_eq_some_iff.1 h).1
    rw [storeCells, Sem.run_bind, addr_add, run_store P w _ u .plain (h1 u (by simp)), cell_of_row h]
    have hin : cs[o + i]? = some cs[o + i] := by simp
    rw [hin]
    simp only []
    have hfz : w.frozen? ⟨c, o + i, none⟩ = false := by
      rw [frozen_of_row h]
      have := hf (o + i) (Nat.le_refl _) (by omega)
      simpa using this
    rw [hfz]
    simp only [Bool.false_eq_true, if_false, Result.andThen]
    rw [setCell_row h]
    have := run_storeCells (P := P) (c := c) (o := o) (e := e) (fr := fr) us (i + 1) (w.putAt c (.cells (cs.setIfInBounds (o + i) u) e fr)) (cs.setIfInBounds (o + i) u)
      (by rw [putAt_get hc, if_pos rfl]) (by simp; omega) (fun j hj1 hj2 => hf j (by omega) (by omega)) (fun v hv => h1 v (by simp [hv]))
    rw [this, putAt_putAt, splA, show o + (i + 1) = o + i + 1 by omega]
theorem Blk.cell_eq (K : Blk) (i : Nat) : K.cell i = if i < K.size then some (match Tr.get K.cs (path i) with | some v => v | none => K.d) else none := by
  unfold Blk.cell
  by_cases h : i < K.size
  · have : Nat.blt i K.size = true := by simpa [Nat.blt_eq] using h
    rw [this, if_pos h]; rfl
  · have : Nat.blt i K.size = false := by
      cases hb : Nat.blt i K.size with
      | false => rfl
      | true => exact absurd (by simpa [Nat.blt_eq] using hb) h
    rw [this, if_neg h]; rfl
theorem HR.storeAll {P : Program} {ρ : Map} {B : Nat} {h h' : AH} {w : World} (a : HR P ρ B h w) {b c x o : Nat} {l us : List Value} (hr : ρ b = some (c, x)) (hs : h.storeAll b o l = some h') (hv : VRs ρ us l) :
    ∃ w', (storeCells ⟨c, o, none⟩ us).run P w = .ok () w' ∧ HR P ρ B h' w' ∧ Step ρ h w ρ h' w' := by
  unfold AH.storeAll at hs
  cases hk : h.blk b with
  | none => rw [hk] at hs; cases hs
  | some K =>
    rw [hk] at hs
    simp only [] at hs
    cases hcnd : (Nat.ble (o + l.length) K.size && (Nat.ble K.froz o && l.all oneC)) with
    | false => rw [hcnd] at hs; cases hs
    | true =>
      rw [hcnd] at hs
      simp only [cond_true, Option.some.injEq] at hs
      subst hs
      rw [Bool.and_eq_true, Bool.and_eq_true] at hcnd
      obtain ⟨c1, c2, c3⟩ := hcnd
      have c1 := Nat.le_of_ble_eq_true c1
      have c2 := Nat.le_of_ble_eq_true c2
      obtain ⟨cs, fr, hc, hcr⟩ := a.row hr hk
      have hlen : us.length = l.length := hv.1
      have hroom := hcr.room
      have hrun := run_storeCells (P := P) (c := c) (o := o) us 0 w cs hc (by omega)
        (fun j hj1 hj2 hjf => by
          rcases hcr.froz j hjf.1 hjf.2 with h1 | ⟨_, h1⟩
          · omega
          · omega)
        (fun u hu => by
          obtain ⟨i, hi, rfl⟩ := List.mem_iff_getElem.1 hu
          have hi' : i < l.length := by omega
          exact (hv.2 i us[i] l[i] (by simp [hi]) (by simp [hi'])).one (List.all_eq_true.1 c3 _ (by simp)))
      simp only [Nat.add_zero] at hrun
      refine ⟨_, hrun, ?_⟩
      have hblk := AH.blk_some hk
      have hget : ∀ j, j ≠ b → Tr.get (Tr.set (path b) (.cells { K with cs := Tr.putAll l o K.cs }) (kill h K.fam b o)) (path j) = Tr.get (kill h K.fam b o) (path j) := fun j hj => by rw [Tr.get_set, if_neg hj]
      refine a.upd hblk trivial hr (.cells { K with cs := Tr.putAll l o K.cs }) (.cells (splA cs o us) K.elem fr) _ (by rw [Tr.get_set, if_pos rfl]) ⟨splA cs o us, fr, rfl, ?_⟩ (fun j hj => ?_) (fun j oj xj hj hg hlv hrj => ?_)
        (fun K0 e => ⟨_, rfl, by cases e; rfl⟩) (fun K0 e => ⟨K, rfl, by cases e; rfl, by cases e; rfl⟩)
      · refine ⟨by rw [splA_size]; exact hcr.room, fun e => by rw [splA_size]; exact hcr.exact e, fun j h1 h2 => by rw [splA_size]; exact hcr.froz j h1 h2, hcr.ord, fun i v hi => ?_⟩
        rw [Blk.cell_eq] at hi
        rw [splA_get _ _ _ _ (by omega)]
        split at hi
        · rename_i hlt
          simp only [Option.some.injEq] at hi
          simp only [] at hlt
          rw [Tr.get_putAll] at hi
          by_cases hin : o ≤ i ∧ i < o + l.length
          · rw [if_pos hin] at hi
            rw [if_pos (by omega)]
            have hi2 : i - o < l.length := by omega
            rw [List.getElem?_eq_getElem hi2] at hi
            simp only [] at hi
            obtain ⟨u, e1, e2⟩ := hv.get (i := i - o) (v := v) (by rw [List.getElem?_eq_getElem hi2, hi])
            exact ⟨u, e1, e2⟩
          · rw [if_neg hin] at hi
            rw [if_neg (by omega)]
            exact hcr.cell i v (by rw [Blk.cell_eq, if_pos hlt, hi])
        · cases hi
      · rw [hget j hj]
        rcases kill_get h K.fam b o j with ⟨e, _⟩ | ⟨_, e, K2, hK2⟩
        · exact .inl e
        · exact .inr ⟨e, _, hK2⟩
      · rw [hget j hj] at hg
        rcases kill_get h K.fam b o j with ⟨e, hsz⟩ | ⟨_, e, K2, hK2⟩
        · rw [e] at hg
          obtain ⟨K1, K2, e1, e2, e3⟩ := a.inj b j _ oj c x xj hblk hg trivial hlv hr hrj (fun e => hj e.symm)
          injection e1 with e1; subst e1; subst e2
          have hm := a.fams j K2 hg
          rw [← e3] at hm
          have hsz := hsz hm hj K2 hg
          obtain ⟨c', x', e4, cs2, fr2, e5, hcr2⟩ := a.obj j _ hg trivial
          rw [hrj] at e4; injection e4 with e4; cases e4
          rw [hc] at e5; injection e5 with e5; injection e5 with e6 e7 e8
          subst e6; subst e8
          refine ⟨splA cs o us, fr, by rw [e7], ⟨by rw [splA_size]; exact hcr2.room, fun e => by rw [splA_size]; exact hcr2.exact e, fun i h1 h2 => by rw [splA_size]; exact hcr2.froz i h1 h2, hcr2.ord, fun i v hi => ?_⟩⟩
          rw [splA_get _ _ _ _ (by omega)]
          have : i < K2.size := by rw [Blk.cell_eq] at hi; split at hi; · assumption
                                   · cases hi
          rw [if_neg (by omega)]
          exact hcr2.cell i v hi
        · rw [e] at hg; injection hg with hg; subst hg; exact hlv.elim
end Go.Ev
namespace Go.Ev
variable [Opq]
variable {P : Program} {ρ : Map} {B nt : Nat} {h h' : AH} {w : World} {a : Act} {t : Tr Value} {o : Oper} {v : Value}
def Fresh (ρ : Map) (m n : Nat) : Prop := ∀ b, m ≤ b → b < n → ρ b = none
/-- an operation yields a value -/
def Yields (P : Program) (o : Oper) (a : Act) (w : World) (u : Value) (w' : World) : Prop :=
  (execOp a.eval o).run P w = .ok (.value u) w' ∨ ((execOp a.eval o).run P w = .ok .skip w' ∧ u = undef)
def OkRes (P : Program) (ρ : Map) (B : Nat) (h : AH) (w : World) (a : Act) (o : Oper) (v : Value) (h' : AH) : Prop :=
  ∃ u w' ρ', Yields P o a w u w' ∧ VR ρ' u v ∧ HR P ρ' B h' w' ∧ Step ρ h w ρ' h' w'
/-- the heap is left alone -/
theorem OkRes.still (hh : HR P ρ B h w) {u : Value} (hy : Yields P o a w u w) (hv : VR ρ u v) : OkRes P ρ B h w a o v h := ⟨u, w, ρ, hy, hv, hh, Step.refl _ _ _⟩
theorem src_tmp (i : Nat) (t : Tr Value) : (srcOf (.tmp i)).ev t = match Tr.get t (path i) with | some v => v | none => undefV := rfl
theorem src_const (v : Value) (t : Tr Value) : (srcOf (.const v)).ev t = v := rfl
theorem src_func (f : FuncId) (t : Tr Value) : (srcOf (.func f)).ev t = .func (.func f) #[] #[] := rfl
theorem opd (ht : TR ρ nt a.tmps t) {x : Operand} (hx : okOpd x = true) : VR ρ (a.eval x) ((srcOf x).ev t) := by
  cases x with
  | tmp i => rw [src_tmp]; exact ht.get i
  | const v => rw [src_const]; exact VR.plain 6 v hx
  | global g => cases hx
  | func f => rw [src_func]; exact .func f rfl (fun i u v h => by simp at h) rfl (fun i u v h => by simp at h)
theorem run_value (s : Sem Value) {u : Value} {w' : World} (h : s.run P w = .ok u w') : ((do pure (Next.value (← s)) : Sem Next)).run P w = .ok (.value u) w' := by
  simp [h, Result.andThen]
theorem run_unit (s : Sem Unit) {w' : World} (h : s.run P w = .ok () w') : ((do s; pure Next.skip : Sem Next)).run P w = .ok .skip w' := by
  simp [h, Result.andThen]
theorem evs_nil (t : Tr Value) : evs [] t = [] := rfl
theorem evs_cons (x : Src) (l : List Src) (t : Tr Value) : evs (x :: l) t = x.ev t :: evs l t := rfl
theorem srcs_nil : srcs [] = [] := rfl
theorem srcs_cons (x : Operand) (l : List Operand) : srcs (x :: l) = srcOf x :: srcs l := rfl
theorem opds (ht : TR ρ nt a.tmps t) : ∀ (l : List Operand), (∀ x ∈ l, okOpd x = true) → VRs ρ (l.map a.eval) (evs (srcs l) t)
  | [], _ => VRs.nil ρ
  | x :: l, hx => by rw [srcs_cons, evs_cons, List.map_cons]; exact VRs.cons (opd ht (hx x (by simp))) (opds ht l fun y hy => hx y (by simp [hy]))
/-! numbers -/
theorem blt_iff (m n : Nat) : Nat.blt m n = true ↔ m < n := by simp [Nat.blt_eq]
theorem blt_dec (m n : Nat) : Nat.blt m n = decide (m < n) := by
  by_cases h : m < n
  · rw [(blt_iff m n).2 h]; simp [h]
  · have : Nat.blt m n = false := by cases hb : Nat.blt m n; rfl; exact absurd ((blt_iff m n).1 hb) h
    rw [this]; simp [h]
theorem ltI_eq (m n : Int) : ltI m n = decide (m < n) := by
  cases m with
  | ofNat m => cases n with
    | ofNat n => show Nat.blt m n = _; rw [blt_dec]; simp
    | negSucc n => show false = _; symm; simp; omega
  | negSucc m => cases n with
    | ofNat n => show true = _; symm; simp; omega
    | negSucc n => show Nat.blt n m = _; rw [blt_dec]; apply Bool.eq_iff_iff.2; simp; omega
theorem beq_dec (m n : Nat) : Nat.beq m n = decide (m = n) := by
  by_cases h : m = n
  · subst h; simp [Nat.beq_refl]
  · have : Nat.beq m n = false := by cases hb : Nat.beq m n; rfl; exact absurd (Nat.eq_of_beq_eq_true hb) h
    rw [this]; simp [h]
theorem eqI_eq (m n : Int) : eqI m n = decide (m = n) := by
  cases m with
  | ofNat m => cases n with
    | ofNat n => show Nat.beq m n = _; rw [beq_dec]; apply Bool.eq_iff_iff.2; simp; omega
    | negSucc n => show false = _; symm; simp
  | negSucc m => cases n with
    | ofNat n => show false = _; symm; simp
    | negSucc n => show Nat.beq m n = _; rw [beq_dec]; simp
theorem eqK_eq {j k : IntKind} (h : eqK j k = true) : j = k := by cases j <;> cases k <;> first | rfl | cases h
theorem fits_range {k : IntKind} {n : Int} (h : fits k n = true) : k.min ≤ n ∧ n ≤ k.max := by
  cases k <;> cases n <;> simp only [fits, blt_iff] at h <;> simp [IntKind.min, IntKind.max, IntKind.signed, IntKind.bits] <;> first | omega | cases h
theorem wrap_range {k : IntKind} {n : Int} (h : k.min ≤ n ∧ n ≤ k.max) : k.wrap n = n := by
  obtain ⟨h1, h2⟩ := h
  cases k <;> simp [IntKind.min, IntKind.max, IntKind.signed, IntKind.bits] at h1 h2 <;> simp [IntKind.wrap, IntKind.signed, IntKind.bits] <;> (try split) <;> omega
theorem wrapF_eq (k : IntKind) (n : Int) : wrapF k n = k.wrap n := by
  unfold wrapF
  cases hf : fits k n with
  | false => rfl
  | true => exact (wrap_range (fits_range hf)).symm
/-- how many bits a number that is not negative has at most -/
def _root_.Go.IntKind.ubits : IntKind → Nat
  | .i8 => 7 | .i16 => 15 | .i32 => 31 | .i64 => 63 | .u8 => 8 | .u16 => 16 | .u32 => 32 | .u64 => 64
theorem fits_lt {k : IntKind} {m : Nat} (h : fits k (.ofNat m) = true) : m < 2 ^ k.ubits := by cases k <;> simp only [fits, blt_iff] at h <;> simp [IntKind.ubits] <;> omega
theorem ubits_le (k : IntKind) : k.ubits ≤ k.bits := by cases k <;> decide
theorem wrap_lt {k : IntKind} {m : Nat} (h : m < 2 ^ k.ubits) : k.wrap (m : Int) = m := by
  apply wrap_range
  cases k <;> simp [IntKind.ubits] at h <;> simp [IntKind.min, IntKind.max, IntKind.signed, IntKind.bits] <;> omega
theorem ofInt_toNat {k : IntKind} {m : Nat} (h : m < 2 ^ k.ubits) : (BitVec.ofInt k.bits (Int.ofNat m)).toNat = m := by
  have h2 : m < 2 ^ k.bits := Nat.lt_of_lt_of_le h (Nat.pow_le_pow_right (by decide) (ubits_le k))
  rw [BitVec.toNat_ofInt]
  show ((m : Int) % ((2 ^ k.bits : Nat) : Int)).toNat = m
  rw [← Int.natCast_emod, Int.toNat_natCast, Nat.mod_eq_of_lt h2]
theorem bitsSlow_eq {op : BinOp} {k : IntKind} {m n : Int} {r : Value} (h : bitsSlow op k m n = some r) : (Op.intBits op k m n).run P w = .ok r w := by
  cases op <;> simp [bitsSlow] at h <;> subst h <;> simp [Op.intBits]
theorem bits2_eq {f : Nat → Nat → Nat} {op : BinOp} {k : IntKind} {m n : Int} {r : Value}
    (hop : ∀ m n : Nat, m < 2 ^ k.ubits → n < 2 ^ k.ubits → (Op.intBits op k (.ofNat m) (.ofNat n)).run P w = .ok (.int k (.ofNat (f m n))) w)
    (h : bits2 f op k m n = some r) : (Op.intBits op k m n).run P w = .ok r w := by
  cases m with
  | negSucc m => exact bitsSlow_eq h
  | ofNat m =>
    cases n with
    | negSucc n => exact bitsSlow_eq h
    | ofNat n =>
      simp only [bits2] at h
      cases hf : (fits k (.ofNat m) && fits k (.ofNat n)) with
      | false => rw [hf] at h; exact bitsSlow_eq h
      | true =>
        rw [hf] at h
        simp only [cond_true, Option.some.injEq] at h
        rw [Bool.and_eq_true] at hf
        subst h
        exact hop m n (fits_lt hf.1) (fits_lt hf.2)
theorem land_run (k : IntKind) (m n : Nat) (h1 : m < 2 ^ k.ubits) (h2 : n < 2 ^ k.ubits) : (Op.intBits .and k (.ofNat m) (.ofNat n)).run P w = .ok (.int k (.ofNat (Nat.land m n))) w := by
  simp only [Op.intBits, Sem.run_pure, BitVec.toNat_and, ofInt_toNat h1, ofInt_toNat h2]
  rw [wrap_lt (Nat.lt_of_le_of_lt Nat.and_le_left h1)]; rfl
theorem lor_run (k : IntKind) (m n : Nat) (h1 : m < 2 ^ k.ubits) (h2 : n < 2 ^ k.ubits) : (Op.intBits .or k (.ofNat m) (.ofNat n)).run P w = .ok (.int k (.ofNat (Nat.lor m n))) w := by
  simp only [Op.intBits, Sem.run_pure, BitVec.toNat_or, ofInt_toNat h1, ofInt_toNat h2]
  rw [wrap_lt (Nat.or_lt_two_pow h1 h2)]; rfl
theorem xor_run (k : IntKind) (m n : Nat) (h1 : m < 2 ^ k.ubits) (h2 : n < 2 ^ k.ubits) : (Op.intBits .xor k (.ofNat m) (.ofNat n)).run P w = .ok (.int k (.ofNat (Nat.xor m n))) w := by
  simp only [Op.intBits, Sem.run_pure, BitVec.toNat_xor, ofInt_toNat h1, ofInt_toNat h2]
  rw [wrap_lt (Nat.xor_lt_two_pow h1 h2)]; rfl
theorem intBin_eq {op : BinOp} {k : IntKind} {m n : Int} {r : Value} {ty : TypeId} (h : intBin op k m n = some r) : (binOp op ty (.int k m) (.int k n)).run P w = .ok r w := by
  cases op <;> simp only [intBin] at h
  case shl => cases h
  case shr => cases h
  case and => simp only [binOp]; simp; exact bits2_eq (land_run k) h
  case or => simp only [binOp]; simp; exact bits2_eq (lor_run k) h
  case xor => simp only [binOp]; simp; exact bits2_eq (xor_run k) h
  case andNot => simp only [binOp]; simp; exact bitsSlow_eq h
  case quo =>
    unfold quoF at h
    cases hz : eqI n 0 with
    | true => rw [hz] at h; cases h
    | false =>
      rw [hz] at h; simp only [cond_false, Option.some.injEq] at h; subst h
      rw [eqI_eq] at hz; simp at hz
      simp only [binOp]; simp [Op.intDiv, hz, wrapF_eq]
  case rem =>
    unfold remF at h
    cases hz : eqI n 0 with
    | true => rw [hz] at h; cases h
    | false =>
      rw [hz] at h; simp only [cond_false, Option.some.injEq] at h; subst h
      rw [eqI_eq] at hz; simp at hz
      simp only [binOp]; simp [Op.intDiv, hz]
  all_goals (simp only [Option.some.injEq] at h; subst h; simp only [binOp]; simp [Op.intArith, Op.intCmp, wrapF_eq, ltI_eq, eqI_eq])
  all_goals first | rfl | (apply Bool.eq_iff_iff.2; simp; done) | (apply Bool.eq_iff_iff.2; simp; omega)
theorem shiftF_eq {op : BinOp} {l : Bool} (hl : isShift op = some l) {k k' : IntKind} {m n : Int} {r : Value} {ty : TypeId} (h : shiftF l k m n = some r) : (binOp op ty (.int k m) (.int k' n)).run P w = .ok r w := by
  cases n with
  | negSucc n => cases h
  | ofNat n =>
    have hn : ¬ ((n : Int) < 0) := by omega
    cases op <;> simp [isShift] at hl <;> subst hl <;> simp [shiftF] at h <;> subst h <;> simp only [binOp]
    · simp [Op.shift, wrapF_eq, hn]
    · simp [Op.shift, hn]
theorem bitsSlow_vr {op : BinOp} {k : IntKind} {m n : Int} {r : Value} (h : bitsSlow op k m n = some r) : VR ρ r r := by
  cases op <;> simp [bitsSlow] at h <;> subst h <;> exact .int _ _
theorem bits2_vr {f : Nat → Nat → Nat} {op : BinOp} {k : IntKind} {m n : Int} {r : Value} (h : bits2 f op k m n = some r) : VR ρ r r := by
  cases m with
  | negSucc m => exact bitsSlow_vr h
  | ofNat m =>
    cases n with
    | negSucc n => exact bitsSlow_vr h
    | ofNat n =>
      simp only [bits2] at h
      cases hf : (fits k (.ofNat m) && fits k (.ofNat n)) with
      | false => rw [hf] at h; exact bitsSlow_vr h
      | true => rw [hf] at h; simp only [cond_true, Option.some.injEq] at h; subst h; exact .int _ _
theorem binNum_eq {op : BinOp} {x y r : Value} {ty : TypeId} (h : binNum op x y = some r) : (binOp op ty x y).run P w = .ok r w ∧ ∃ j m k n, x = .int j m ∧ y = .int k n ∧ VR ρ r r := by
  unfold binNum at h
  split at h
  · rename_i j m k n
    cases hs : isShift op with
    | some l =>
      rw [hs] at h
      refine ⟨shiftF_eq hs h, j, m, k, n, rfl, rfl, ?_⟩
      cases n with
      | negSucc n => cases h
      | ofNat n => cases l <;> simp [shiftF] at h <;> subst h <;> exact .int _ _
    | none =>
      rw [hs] at h
      simp only [] at h
      cases hk : eqK j k with
      | false => rw [hk] at h; cases h
      | true =>
        rw [hk] at h
        have := eqK_eq hk; subst this
        refine ⟨intBin_eq h, j, m, j, n, rfl, rfl, ?_⟩
        simp only [cond_true] at h
        cases op <;> simp only [intBin] at h
        case shl => cases h
        case shr => cases h
        case and => exact bits2_vr h
        case or => exact bits2_vr h
        case xor => exact bits2_vr h
        case andNot => simp [bitsSlow] at h; subst h; exact .int _ _
        case quo => unfold quoF at h; cases hz : eqI n 0 <;> rw [hz] at h <;> simp at h; subst h; exact .int _ _
        case rem => unfold remF at h; cases hz : eqI n 0 <;> rw [hz] at h <;> simp at h; subst h; exact .int _ _
        all_goals (simp at h; subst h; first | exact .int _ _ | exact .bool _)
  · cases h
end Go.Ev
namespace Go.Ev
variable [Opq]
variable {ox oy : Operand} {P : Program} {E : List (Nat × Ext)} {ρ : Map} {B nt : Nat} {h h' : AH} {w : World} {a : Act} {t : Tr Value} {o : Oper} {v : Value}
/-- what an operation of the evaluator may do: the goal of every law below -/
abbrev Goal (P : Program) (ρ : Map) (B : Nat) (h : AH) (w : World) (a : Act) (o : Oper) (v : Value) (h' : AH) : Prop := OkRes P ρ B h w a o v h'
def Oks (o : Oper) : Prop := ∀ x ∈ o.op.operands.toList, okOpd x = true
theorem yl {s : Sem Value} {u : Value} {w' : World} (he : execOp a.eval o = (do pure (Next.value (← s)))) (h : s.run P w = .ok u w') : Yields P o a w u w' := .inl (by rw [he]; exact run_value s h)
theorem yu {s : Sem Unit} {w' : World} (he : execOp a.eval o = (do s; pure Next.skip)) (h : s.run P w = .ok () w') : Yields P o a w undef w' := .inr ⟨by rw [he]; exact run_unit s h, rfl⟩
theorem snd_move {x : Operand} (ho : o.op = .move x ∨ o.op = .assign x) (hok : Oks o) (hh : HR P ρ B h w) (ht : TR ρ nt a.tmps t) (hr : COp.run P (compOp P E o) t h = .ok v h') : Goal P ρ B h w a o v h' := by
  have hx : okOpd x = true := hok x (by rcases ho with ho | ho <;> simp [ho, Op.operands])
  have hr' : opMv (srcOf x) t h = .ok v h' := by rcases ho with ho | ho <;> (simp only [compOp, ho] at hr; exact hr)
  simp only [opMv, R.ok.injEq] at hr'
  obtain ⟨rfl, rfl⟩ := hr'
  refine OkRes.still hh (.inl ?_) (opd ht hx)
  rcases ho with ho | ho <;> simp only [execOp, ho] <;> rfl
theorem snd_pick {c x y : Operand} (ho : o.op = .pick c x y) (hok : Oks o) (hh : HR P ρ B h w) (ht : TR ρ nt a.tmps t) (hr : COp.run P (compOp P E o) t h = .ok v h') : Goal P ρ B h w a o v h' := by
  have hc := opd ht (hok c (by simp [ho, Op.operands]))
  have hx := opd ht (hok x (by simp [ho, Op.operands]))
  have hy := opd ht (hok y (by simp [ho, Op.operands]))
  have hr' : opPick (srcOf c) (srcOf x) (srcOf y) t h = .ok v h' := by simp only [compOp, ho] at hr; exact hr
  unfold opPick at hr'
  generalize (srcOf c).ev t = cv at hc hr'
  generalize hcc : a.eval c = cc at hc
  split at hr'
  · cases hc
    rename_i b
    simp only [R.ok.injEq] at hr'
    obtain ⟨rfl, rfl⟩ := hr'
    refine OkRes.still hh (u := if b then a.eval x else a.eval y) (.inl ?_) (by cases b <;> assumption)
    simp only [execOp, ho, hcc]
    simp [asBool]
  · cases hr'
theorem snd_nilCheck {x : Operand} (ho : o.op = .nilCheck x) (hok : Oks o) (hh : HR P ρ B h w) (ht : TR ρ nt a.tmps t) (hr : COp.run P (compOp P E o) t h = .ok v h') : Goal P ρ B h w a o v h' := by
  have hx := opd ht (hok x (by simp [ho, Op.operands]))
  have hr' : opNilCheck (srcOf x) t h = .ok v h' := by simp only [compOp, ho] at hr; exact hr
  unfold opNilCheck at hr'
  generalize (srcOf x).ev t = xv at hx hr'
  generalize hxx : a.eval x = xx at hx
  split at hr'
  · simp only [R.ok.injEq] at hr'
    obtain ⟨rfl, rfl⟩ := hr'
    cases hx with
    | ptr o' s e => exact OkRes.still hh (.inl (by simp only [execOp, ho, hxx]; rfl)) (.ptr o' s e)
  · cases hr'
theorem snd_makeFunc {fn : Fn} {first captured : Array Operand} (ho : o.op = .makeFunc fn first captured) (hok : Oks o) (hh : HR P ρ B h w) (ht : TR ρ nt a.tmps t) (hr : COp.run P (compOp P E o) t h = .ok v h') : Goal P ρ B h w a o v h' := by
  cases fn with
  | func f =>
    have hr' : opMakeFunc (.func f) (srcs first.toList) (srcs captured.toList) t h = .ok v h' := by simp only [compOp, ho] at hr; exact hr
    simp only [opMakeFunc, R.ok.injEq] at hr'
    obtain ⟨rfl, rfl⟩ := hr'
    have h1 := opds (ρ := ρ) (a := a) ht first.toList fun x hx => hok x (by simp [ho, Op.operands]; exact .inl (by simpa using hx))
    have h2 := opds (ρ := ρ) (a := a) ht captured.toList fun x hx => hok x (by simp [ho, Op.operands]; exact .inr (by simpa using hx))
    refine OkRes.still hh (yl (s := Instr.makeFunc (.func f) (first.map a.eval) (captured.map a.eval)) (by simp only [execOp, ho]) rfl) ?_
    refine .func f (by simpa using h1.1) (fun i u v hu hv => h1.2 i u v (by simpa using hu) (by simpa using hv)) (by simpa using h2.1) (fun i u v hu hv => h2.2 i u v (by simpa using hu) (by simpa using hv))
  | _ => simp only [compOp, ho] at hr; cases hr
/-! comparisons -/
theorem eqRes_eql {b : Bool} {r : Value} (h : eqRes .eql b = some r) : r = .bool b := by simp [eqRes] at h; exact h.symm
theorem eqRes_neq {b : Bool} {r : Value} (h : eqRes .neq b = some r) : r = .bool (!b) := by simp [eqRes] at h; exact h.symm
theorem eqRes_some {op : BinOp} {b : Bool} {r : Value} (h : eqRes op b = some r) : (op = .eql ∧ r = .bool b) ∨ (op = .neq ∧ r = .bool (!b)) := by
  cases op <;> simp [eqRes] at h
  · exact .inl ⟨rfl, h.symm⟩
  · exact .inr ⟨rfl, h.symm⟩
/-- '==' by 'Op.equal' -/
theorem run_eqRes {op : BinOp} {b : Bool} {r x y : Value} {ty : TypeId} (h : eqRes op b = some r) (hb : (Op.equal ty x y).run P w = .ok b w)
    (h1 : binOp .eql ty x y = (do pure (.bool (← Op.equal ty x y)))) (h2 : binOp .neq ty x y = (do pure (.bool (!(← Op.equal ty x y))))) : (binOp op ty x y).run P w = .ok r w := by
  rcases eqRes_some h with ⟨rfl, rfl⟩ | ⟨rfl, rfl⟩
  · rw [h1]; simp [hb, Result.andThen]
  · rw [h2]; simp [hb, Result.andThen]
theorem eqBytes_eq : ∀ (x y : List UInt8), eqBytes x y = (x == y)
  | [], [] => rfl
  | [], _ :: _ => rfl
  | _ :: _, [] => rfl
  | a :: x, b :: y => by
    have : eqBytes (a :: x) (b :: y) = bif Nat.beq a.toNat b.toNat then eqBytes x y else false := rfl
    rw [this, eqBytes_eq x y, beq_dec]
    by_cases hab : a = b
    · subst hab; simp
    · have : a.toNat ≠ b.toNat := fun e => hab (UInt8.toNat_inj.1 e)
      simp [this, hab]
theorem toList_data (s : ByteArray) : s.toList = s.data.toList := ByteArray.toList_eq s
theorem strBin_eq {op : BinOp} {x y : ByteArray} {r : Value} {ty : TypeId} (h : strBin op x y = some r) : (binOp op ty (.string x) (.string y)).run P w = .ok r w ∧ VR ρ r r := by
  cases op <;> simp only [strBin] at h
  case add =>
    cases hc : Nat.ble (x.data.toList.length + y.data.toList.length) 1099511627776 with
    | false => rw [hc] at h; cases h
    | true =>
      rw [hc] at h; simp only [cond_true, Option.some.injEq] at h; subst h
      have hc := Nat.le_of_ble_eq_true hc
      have e1 : x.size = x.data.toList.length := rfl
      have e2 : y.size = y.data.toList.length := rfl
      refine ⟨?_, .string _⟩
      simp only [binOp, Op.stringOp]
      rw [if_neg (by rw [e1, e2]; simp only [IntKind.max, IntKind.signed, IntKind.bits]; simp; omega)]
      simp only [Sem.run_pure]
      congr 2
  case eql => simp only [Option.some.injEq] at h; subst h; exact ⟨by simp only [binOp]; simp [Op.stringOp, eqBytes_eq, toList_data], .bool _⟩
  case neq => simp only [Option.some.injEq] at h; subst h; exact ⟨by simp only [binOp]; simp [Op.stringOp, eqBytes_eq, toList_data], .bool _⟩
  all_goals cases h
theorem run_equal_bool {ty : TypeId} (hu : P.underlying ty = some .bool) (x y : Bool) : (Op.equal ty (.bool x) (.bool y)).run P w = .ok (x == y) w := by
  have : ∀ d, (Op.equalIn (d + 1) ty (.bool x) (.bool y)).run P w = .ok (x == y) w := fun d => by simp [Op.equalIn, run_underlying hu]
  exact this 9999
theorem run_equal_ptr_nil {ty e : TypeId} (hu : P.underlying ty = some (.pointer e)) (y : Option Addr) : (Op.equal ty (.pointer none) (.pointer y)).run P w = .ok y.isNone w := by
  have : ∀ d, (Op.equalIn (d + 1) ty (.pointer none) (.pointer y)).run P w = .ok y.isNone w := fun d => by simp [Op.equalIn, run_underlying hu]
  exact this 9999
theorem run_equal_nil_ptr {ty e : TypeId} (hu : P.underlying ty = some (.pointer e)) (x : Addr) : (Op.equal ty (.pointer (some x)) (.pointer none)).run P w = .ok false w := by
  have : ∀ d, (Op.equalIn (d + 1) ty (.pointer (some x)) (.pointer none)).run P w = .ok false w := fun d => by simp [Op.equalIn, run_underlying hu]
  exact this 9999
theorem run_equal_ptr {ty e : TypeId} (hu : P.underlying ty = some (.pointer e)) {n : Nat} (hs : sizeT P e = some n) (hn : n ≠ 0) (x : Addr) : (Op.equal ty (.pointer (some x)) (.pointer (some x))).run P w = .ok true w := by
  have hz : (sizeOf e).run P w = .ok n w := by
    unfold sizeT at hs
    cases hi : P.info? e with
    | none => rw [hi] at hs; cases hs
    | some i => rw [hi] at hs; simp at hs; simp [sizeOf, typeInfo, hi, hs]
  have : ∀ d, (Op.equalIn (d + 1) ty (.pointer (some x)) (.pointer (some x))).run P w = .ok true w := fun d => by simp [Op.equalIn, run_underlying hu, hz, hn, sameAddr]
  exact this 9999
theorem run_equal_slice_nil {ty e : TypeId} (hu : P.underlying ty = some (.slice e)) (y : Option Addr) (i j k l : Nat) : (Op.equal ty (.slice none i j) (.slice y k l)).run P w = .ok y.isNone w := by
  have : ∀ d, (Op.equalIn (d + 1) ty (.slice none i j) (.slice y k l)).run P w = .ok y.isNone w := fun d => by simp [Op.equalIn, run_underlying hu]
  exact this 9999
theorem run_equal_nil_slice {ty e : TypeId} (hu : P.underlying ty = some (.slice e)) (x : Addr) (i j k l : Nat) : (Op.equal ty (.slice (some x) i j) (.slice none k l)).run P w = .ok false w := by
  have : ∀ d, (Op.equalIn (d + 1) ty (.slice (some x) i j) (.slice none k l)).run P w = .ok false w := fun d => by simp [Op.equalIn, run_underlying hu]
  exact this 9999
/-- what makes the evaluator's 'bin' good for a type -/
def BKok (P : Program) (ty : TypeId) : BK → Prop
  | .num => ∃ k, P.underlying ty = some (.int k)
  | .str => P.underlying ty = some .string
  | .bool => P.underlying ty = some .bool
  | .ptr => ∃ e n, P.underlying ty = some (.pointer e) ∧ sizeT P e = some n ∧ n ≠ 0
  | .slice => ∃ e, P.underlying ty = some (.slice e)
theorem binK_eq {k : BK} {op : BinOp} {x y r xc yc : Value} {ty : TypeId} (hk : BKok P ty k) (h : binK k op x y = some r) (hx : VR ρ xc x) (hy : VR ρ yc y) :
    (do eqGuard op ty ox oy xc yc; binOp op ty xc yc : Sem Value).run P w = .ok r w ∧ VR ρ r r := by
  cases k with
  | num =>
    obtain ⟨e1, j, m, k, n, rfl, rfl, e2⟩ := binNum_eq (ρ := ρ) (P := P) (w := w) (ty := ty) (show binNum op x y = some r from h)
    cases hx; cases hy
    refine ⟨?_, e2⟩
    rw [Sem.run_bind]
    have : (eqGuard op ty ox oy (.int j m) (.int k n)).run P w = .ok () w := by cases op <;> simp [eqGuard]
    rw [this]; exact e1
  | str =>
    replace h : binStr op x y = some r := h
    unfold binStr at h
    split at h
    · rename_i s u
      cases hx; cases hy
      obtain ⟨e1, e2⟩ := strBin_eq (ρ := ρ) (P := P) (w := w) (ty := ty) h
      refine ⟨?_, e2⟩
      rw [Sem.run_bind]
      have : (eqGuard op ty ox oy (.string s) (.string u)).run P w = .ok () w := by cases op <;> simp [eqGuard]
      rw [this]; exact e1
    · cases h
  | bool =>
    replace h : binBool op x y = some r := h
    unfold binBool at h
    split at h
    · rename_i s u
      cases hx; cases hy
      refine ⟨?_, by rcases eqRes_some h with ⟨_, rfl⟩ | ⟨_, rfl⟩ <;> exact .bool _⟩
      rw [Sem.run_bind]
      have : (eqGuard op ty ox oy (.bool s) (.bool u)).run P w = .ok () w := by cases op <;> simp [eqGuard]
      rw [this]
      exact run_eqRes h (run_equal_bool hk s u) rfl rfl
    · cases h
  | ptr =>
    obtain ⟨e, n, hu, hs, hn⟩ := hk
    replace h : binPtr op x y = some r := h
    have gd : ∀ p q, (eqGuard op ty ox oy (.pointer p) (.pointer q)).run P w = .ok () w := fun p q => by cases op <;> simp [eqGuard]
    have isb : ∀ b, eqRes op b = some r → VR ρ r r := fun b h => by rcases eqRes_some h with ⟨_, rfl⟩ | ⟨_, rfl⟩ <;> exact .bool _
    unfold binPtr at h
    split at h
    · rename_i b
      refine ⟨?_, isb _ h⟩
      cases hx
      cases hy with
      | nilPtr => rw [Sem.run_bind, gd]; exact run_eqRes h (run_equal_ptr_nil hu _) rfl rfl
      | ptr o' s' e' => rw [Sem.run_bind, gd]; exact run_eqRes h (run_equal_ptr_nil hu _) rfl rfl
    · refine ⟨?_, isb _ h⟩
      cases hy
      cases hx with
      | ptr o' s' e' => rw [Sem.run_bind, gd]; exact run_eqRes h (run_equal_nil_ptr hu _) rfl rfl
    · rename_i p q
      cases hc : (Nat.beq p.block q.block && Nat.beq p.off q.off) with
      | false => rw [hc] at h; cases h
      | true =>
        rw [hc] at h
        simp only [cond_true] at h
        rw [Bool.and_eq_true] at hc
        have h1 := Nat.eq_of_beq_eq_true hc.1
        have h2 := Nat.eq_of_beq_eq_true hc.2
        refine ⟨?_, isb _ h⟩
        cases hx with
        | ptr o1 s1 e1 =>
          cases hy with
          | ptr o2 s2 e2 =>
            simp only [] at h1 h2
            subst h1; subst h2
            rw [e1] at e2; injection e2 with e2; cases e2
            rw [Sem.run_bind, gd]; exact run_eqRes h (run_equal_ptr hu hs hn _) rfl rfl
    · cases h
  | slice =>
    obtain ⟨e, hu⟩ := hk
    replace h : binSlice op x y = some r := h
    have gd : ∀ p i j q k l, (eqGuard op ty ox oy (.slice p i j) (.slice q k l)).run P w = .ok () w := fun p i j q k l => by cases op <;> simp [eqGuard]
    have isb : ∀ b, eqRes op b = some r → VR ρ r r := fun b h => by rcases eqRes_some h with ⟨_, rfl⟩ | ⟨_, rfl⟩ <;> exact .bool _
    unfold binSlice at h
    split at h
    · refine ⟨?_, isb _ h⟩
      cases hx
      cases hy with
      | nilSlice => rw [Sem.run_bind, gd]; exact run_eqRes h (run_equal_slice_nil hu _ _ _ _ _) rfl rfl
      | slice o' l' k' e' => rw [Sem.run_bind, gd]; exact run_eqRes h (run_equal_slice_nil hu _ _ _ _ _) rfl rfl
      | sliceX o' l' k' e' => rw [Sem.run_bind, gd]; exact run_eqRes h (run_equal_slice_nil hu _ _ _ _ _) rfl rfl
      | sliceE o1 o2 k' i' e' => rw [Sem.run_bind, gd]; exact run_eqRes h (run_equal_slice_nil hu _ _ _ _ _) rfl rfl
    · refine ⟨?_, isb _ h⟩
      cases hy
      cases hx with
      | slice o' l' k' e' => rw [Sem.run_bind, gd]; exact run_eqRes h (run_equal_nil_slice hu _ _ _ _ _) rfl rfl
      | sliceX o' l' k' e' => rw [Sem.run_bind, gd]; exact run_eqRes h (run_equal_nil_slice hu _ _ _ _ _) rfl rfl
      | sliceE o1 o2 k' i' e' => rw [Sem.run_bind, gd]; exact run_eqRes h (run_equal_nil_slice hu _ _ _ _ _) rfl rfl
    · cases h
/-! numbers of which the bounds alone are known -/
theorem span_ok {x xc : Value} {k : IntKind} {lo hi : Int} (h : VR ρ xc x) (hs : spanOf x = some (k, lo, hi)) : ∃ n, xc = .int k n ∧ lo ≤ n ∧ n ≤ hi ∧ ∀ e, idOf x = some e → Den e k n := by
  cases h with
  | int j n =>
    simp only [spanOf, Option.some.injEq, Prod.mk.injEq] at hs
    obtain ⟨rfl, rfl, rfl⟩ := hs
    exact ⟨n, rfl, Int.le_refl _, Int.le_refl _, fun i hi => by cases hi⟩
  | opqI i e j n lo2 hi2 h1 h2 h3 =>
    simp only [spanOf, Option.some.injEq, Prod.mk.injEq] at hs
    obtain ⟨rfl, rfl, rfl⟩ := hs
    exact ⟨n, rfl, h2, h3, fun j hj => by simp only [idOf, Option.some.injEq] at hj; subst hj; exact h1⟩
  | _ => simp only [spanOf] at hs <;> cases hs
theorem spanLt_ok {a b c d m n : Int} {r : Bool} (h : spanLt a b c d = some r) (h1 : a ≤ m) (h2 : m ≤ b) (h3 : c ≤ n) (h4 : n ≤ d) : decide (m < n) = r := by
  unfold spanLt at h
  rw [ltI_eq, ltI_eq] at h
  by_cases e1 : b < c
  · simp [e1] at h; subst h; simp; omega
  · by_cases e2 : a < d
    · simp [e1, e2] at h
    · simp [e1, e2] at h; subst h; simp; omega
theorem map_not {x : Option Bool} {r : Bool} (h : x.map not = some r) : x = some (!r) := by
  cases x with
  | none => cases h
  | some b => simp at h; subst h; simp
theorem eqX_eq : ∀ {a b : Value}, eqX a b = true → a = b := by
  intro a
  cases a with
  | chan r =>
    intro b h
    cases r with
    | none => cases h
    | some i =>
      cases b with
      | chan q =>
        cases q with
        | none => cases h
        | some j => rw [Nat.eq_of_beq_eq_true (show Nat.beq i j = true from h)]
      | _ => cases h
  | iface i v =>
    intro b h
    cases b with
    | iface j y =>
      have h : (Nat.beq i j && eqX v y) = true := h
      rw [Bool.and_eq_true] at h
      rw [Nat.eq_of_beq_eq_true h.1, eqX_eq h.2]
    | _ => cases h
  | _ => intro b h; cases h
theorem opqCmp_ok {op : BinOp} {x y xc yc : Value} {b : Bool} {ty : TypeId} (h : opqCmp op x y = some b) (hx : VR ρ xc x) (hy : VR ρ yc y) :
    (do eqGuard op ty ox oy xc yc; binOp op ty xc yc : Sem Value).run P w = .ok (.bool b) w := by
  unfold opqCmp at h
  split at h
  · rename_i j a1 b1 k c1 d1 e1 e2
    cases hk : eqK j k with
    | false => rw [hk] at h; cases h
    | true =>
      rw [hk] at h
      simp only [cond_true] at h
      have := eqK_eq hk; subst this
      obtain ⟨m, rfl, h1, h2, i1⟩ := span_ok hx e1
      obtain ⟨n, rfl, h3, h4, i2⟩ := span_ok hy e2
      have hg : (eqGuard op ty ox oy (.int j m) (.int j n)).run P w = .ok () w := by cases op <;> simp [eqGuard]
      have same : sameId x y = true → m = n := fun hs => by
        unfold sameId at hs
        split at hs
        · rename_i p q hp hq
          have := eqX_eq hs; subst this
          exact ((i1 p hp).uniq (i2 p hq)).2
        · cases hs
      have key : ∀ r, intBin op j m n = some r → (do eqGuard op ty ox oy (.int j m) (.int j n); binOp op ty (.int j m) (.int j n) : Sem Value).run P w = .ok r w := fun r hr => by
        rw [Sem.run_bind, hg]
        exact intBin_eq hr
      apply key
      cases op <;> simp only [] at h <;> first | (cases h; done) | skip
      case lss =>
        have := spanLt_ok h h1 h2 h3 h4
        show some (Value.bool (ltI m n)) = _
        rw [ltI_eq, this]
      case gtr =>
        have := spanLt_ok h h3 h4 h1 h2
        show some (Value.bool (ltI n m)) = _
        rw [ltI_eq, this]
      case leq =>
        have := spanLt_ok (map_not h) h3 h4 h1 h2
        show some (Value.bool (!(ltI n m))) = _
        rw [ltI_eq, this]; simp
      case geq =>
        have := spanLt_ok (map_not h) h1 h2 h3 h4
        show some (Value.bool (!(ltI m n))) = _
        rw [ltI_eq, this]; simp
      case eql =>
        show some (Value.bool (eqI m n)) = _
        rw [eqI_eq]
        cases hs : sameId x y with
        | true => rw [hs] at h; simp at h; subst h; simp [same hs]
        | false =>
          rw [hs, ltI_eq, ltI_eq] at h
          by_cases g1 : b1 < c1
          · simp [g1] at h; subst h; simp; omega
          · by_cases g2 : d1 < a1
            · simp [g1, g2] at h; subst h; simp; omega
            · simp [g1, g2] at h
      case neq =>
        show some (Value.bool (!(eqI m n))) = _
        rw [eqI_eq]
        cases hs : sameId x y with
        | true => rw [hs] at h; simp at h; subst h; simp [same hs]
        | false =>
          rw [hs, ltI_eq, ltI_eq] at h
          by_cases g1 : b1 < c1
          · simp [g1] at h; subst h; simp; omega
          · by_cases g2 : d1 < a1
            · simp [g1, g2] at h; subst h; simp; omega
            · simp [g1, g2] at h
  · cases h
theorem and_le {n : Int} {c : Nat} (hc : c < 9223372036854775808) : 0 ≤ symF (2 * c) n ∧ symF (2 * c) n ≤ c := by
  unfold symF
  rw [if_pos (by omega), show 2 * c / 2 = c by omega]
  have h1 : (BitVec.ofInt IntKind.i64.bits (Int.ofNat c)).toNat = c := ofInt_toNat (k := .i64) (by simp [IntKind.ubits]; omega)
  have h2 : (BitVec.ofInt IntKind.i64.bits n &&& BitVec.ofInt IntKind.i64.bits (Int.ofNat c)).toNat ≤ c := by
    rw [BitVec.toNat_and, h1]; exact Nat.and_le_right
  rw [wrap_lt (k := .i64) (Nat.lt_of_le_of_lt h2 hc)]
  omega
theorem xor_le {n : Int} {c : Nat} (h0 : 0 ≤ n) (hn : n ≤ 4294967295) (hc : c ≤ 4294967295) : 0 ≤ symF (2 * c + 1) n ∧ symF (2 * c + 1) n ≤ 4294967295 := by
  unfold symF
  rw [if_neg (by omega), show (2 * c + 1) / 2 = c by omega]
  obtain ⟨m, rfl⟩ := Int.eq_ofNat_of_zero_le h0
  have h1 : (BitVec.ofInt IntKind.i64.bits (Int.ofNat c)).toNat = c := ofInt_toNat (k := .i64) (by simp [IntKind.ubits]; omega)
  have h2 : (BitVec.ofInt IntKind.i64.bits ((m : Nat) : Int)).toNat = m := ofInt_toNat (k := .i64) (m := m) (by simp [IntKind.ubits]; omega)
  have h3 : (BitVec.ofInt IntKind.i64.bits ((m : Nat) : Int) ^^^ BitVec.ofInt IntKind.i64.bits (Int.ofNat c)).toNat < 2 ^ 32 := by
    rw [BitVec.toNat_xor, h1, h2]; exact Nat.xor_lt_two_pow (by omega) (by omega)
  rw [wrap_lt (k := .i64) (Nat.lt_trans h3 (by decide))]
  omega
theorem symBin_ok {op : BinOp} {x y r xc yc : Value} {ty : TypeId} (h : symBin op x y = some r) (hx : VR ρ xc x) (hy : VR ρ yc y) :
    ∃ u, (do eqGuard op ty ox oy xc yc; binOp op ty xc yc : Sem Value).run P w = .ok u w ∧ VR ρ u r := by
  unfold symBin at h
  split at h
  · rename_i i k lo k2 hi e k' c
    cases hk : (eqK k .i64 && eqK k' .i64) with
    | false => rw [hk] at h; cases h
    | true =>
      rw [hk] at h
      simp only [cond_true] at h
      rw [Bool.and_eq_true] at hk
      have := eqK_eq hk.1; subst this
      have := eqK_eq hk.2; subst this
      cases hy
      cases hx with
      | opqI _ _ _ n _ _ h1 h2 h3 =>
        have key : ∀ v, bitsSlow op .i64 n (.ofNat c) = some v → op = .and ∨ op = .xor → (do eqGuard op ty ox oy (.int .i64 n) (.int .i64 (.ofNat c)); binOp op ty (.int .i64 n) (.int .i64 (.ofNat c)) : Sem Value).run P w = .ok v w := fun v hv ho => by
          rw [Sem.run_bind]
          have hg : (eqGuard op ty ox oy (.int .i64 n) (.int .i64 (.ofNat c))).run P w = .ok () w := by cases op <;> simp [eqGuard]
          rw [hg]
          have := bitsSlow_eq (P := P) (w := w) hv
          rcases ho with rfl | rfl <;> (simp only [binOp]; simp; exact this)
        split at h
        · cases hc : Nat.blt c 9223372036854775808 with
          | false => rw [hc] at h; cases h
          | true =>
            rw [hc] at h
            simp only [cond_true, Option.some.injEq] at h; subst h
            have hc := (blt_iff _ _).1 hc
            have hb := and_le (n := n) hc
            refine ⟨_, key (.int .i64 (symF (2 * c) n)) ?_ (.inl rfl), .opqI i _ .i64 _ _ _ (.op (2 * c) e n h1) hb.1 hb.2⟩
            unfold symF
            rw [if_pos (by omega), show 2 * c / 2 = c by omega]
            rfl
        · cases hc : (!(ltI lo 0) && (!(ltI 4294967295 hi) && Nat.ble c 4294967295)) with
          | false => rw [hc] at h; cases h
          | true =>
            rw [hc] at h
            simp only [cond_true, Option.some.injEq] at h; subst h
            rw [Bool.and_eq_true, Bool.and_eq_true, ltI_eq, ltI_eq] at hc
            obtain ⟨c1, c2, c3⟩ := hc
            simp at c1 c2
            have c3 := Nat.le_of_ble_eq_true c3
            have hb := xor_le (n := n) (by omega) (by omega) c3
            refine ⟨_, key (.int .i64 (symF (2 * c + 1) n)) ?_ (.inr rfl), .opqI i _ .i64 _ _ _ (.op (2 * c + 1) e n h1) hb.1 hb.2⟩
            unfold symF
            rw [if_neg (by omega), show (2 * c + 1) / 2 = c by omega]
            rfl
        · cases h
  · cases h
theorem opBin_ok {k : BK} {op : BinOp} {x y : Operand} {ty ty2 : TypeId} (ho : o.op = .binOp op ty x y ty2) (hk : BKok P ty k) (hok : Oks o) (hh : HR P ρ B h w) (ht : TR ρ nt a.tmps t)
    (hr : opBin k op (srcOf x) (srcOf y) t h = .ok v h') : Goal P ρ B h w a o v h' := by
  have hx := opd ht (hok x (by simp [ho, Op.operands]))
  have hy := opd ht (hok y (by simp [ho, Op.operands]))
  unfold opBin at hr
  split at hr
  · rename_i r e
    simp only [R.ok.injEq] at hr
    obtain ⟨rfl, rfl⟩ := hr
    obtain ⟨e1, e2⟩ := binK_eq (ox := x) (oy := y) (w := w) hk e hx hy
    exact OkRes.still hh (yl (by simp only [execOp, ho]) e1) e2
  · split at hr
    · split at hr
      · rename_i b e
        simp only [R.ok.injEq] at hr
        obtain ⟨rfl, rfl⟩ := hr
        exact OkRes.still hh (yl (by simp only [execOp, ho]) (opqCmp_ok (ty := ty) (ox := x) (oy := y) (w := w) e hx hy)) (.bool b)
      · split at hr
        · rename_i r e
          simp only [R.ok.injEq] at hr
          obtain ⟨rfl, rfl⟩ := hr
          obtain ⟨u, e1, e2⟩ := symBin_ok (ty := ty) (ox := x) (oy := y) (w := w) (P := P) e hx hy
          exact OkRes.still hh (yl (by simp only [execOp, ho]) e1) e2
        · cases hr
    · cases hr
end Go.Ev
namespace Go.Ev
variable [Opq]
variable {ox oy : Operand} {P : Program} {E : List (Nat × Ext)} {ρ : Map} {B nt : Nat} {h h' : AH} {w : World} {a : Act} {t : Tr Value} {o : Oper} {v : Value}
theorem run_sizeT {ty : TypeId} {n : Nat} (hs : sizeT P ty = some n) : (sizeOf ty).run P w = .ok n w := by
  unfold sizeT at hs
  cases hi : P.info? ty with
  | none => rw [hi] at hs; cases hs
  | some i => rw [hi] at hs; simp at hs; simp [sizeOf, typeInfo, hi, hs]
theorem run_isAggT {ty : TypeId} {b : Bool} (hs : isAggT P ty = some b) : (isAgg ty).run P w = .ok b w := by
  unfold isAggT at hs
  cases hu : P.underlying ty with
  | none => rw [hu] at hs; cases hs
  | some d => rw [hu] at hs; cases d <;> simp at hs <;> subst hs <;> simp [isAgg, run_underlying hu]
/-! loads -/
theorem snd_load {ty : TypeId} {x : Operand} (ho : o.op = .load ty x) (hok : Oks o) (hh : HR P ρ B h w) (ht : TR ρ nt a.tmps t) (hr : COp.run P (compOp P E o) t h = .ok v h') : h' = h ∧ Goal P ρ B h w a o v h := by
  have hx := opd ht (hok x (by simp [ho, Op.operands]))
  simp only [compOp, ho] at hr
  split at hr
  · rename_i hag
    replace hr : opLoad1 (srcOf x) t h = .ok v h' := hr
    unfold opLoad1 at hr
    generalize (srcOf x).ev t = xv at hx hr
    generalize hxx : a.eval x = xx at hx
    split at hr
    · rename_i ad
      split at hr
      · rename_i u hu
        simp only [R.ok.injEq] at hr
        obtain ⟨rfl, rfl⟩ := hr
        refine ⟨rfl, ?_⟩
        cases hx with
        | ptr o' s e =>
          obtain ⟨u', e1, e2⟩ := hh.cell e hu
          refine OkRes.still hh (yl (s := Instr.loadAt ty (a.eval x)) (by simp only [execOp, ho]) ?_) e2
          rw [hxx]
          simp [Instr.loadAt, Instr.sureAddr, loadVar, run_isAggT hag, e1]
      · cases hr
    · cases hr
  · rename_i n hag hsz
    replace hr : opLoadN n (srcOf x) t h = .ok v h' := hr
    unfold opLoadN at hr
    generalize (srcOf x).ev t = xv at hx hr
    generalize hxx : a.eval x = xx at hx
    split at hr
    · rename_i ad
      split at hr
      · rename_i l hl
        simp only [R.ok.injEq] at hr
        obtain ⟨rfl, rfl⟩ := hr
        refine ⟨rfl, ?_⟩
        cases hx with
        | ptr o' s e =>
          obtain ⟨us, e1, e2, e3⟩ := hh.cellsOf e hl
          refine OkRes.still hh (u := .agg ⟨us⟩) (yl (s := Instr.loadAt ty (a.eval x)) (by simp only [execOp, ho]) ?_) (.agg_of e1)
          rw [hxx]
          have := run_cells (P := P) e3
          rw [e2] at this
          simp [Instr.loadAt, Instr.sureAddr, loadVar, run_isAggT hag, run_sizeT hsz, this]
      · cases hr
    · cases hr
  · cases hr
/-! arithmetic of one operand, conversions -/
theorem snd_unOp {op : UnOp} {ty : TypeId} {x : Operand} (ho : o.op = .unOp op ty x) (hok : Oks o) (hh : HR P ρ B h w) (ht : TR ρ nt a.tmps t) (hr : COp.run P (compOp P E o) t h = .ok v h') : Goal P ρ B h w a o v h' := by
  have hx := opd ht (hok x (by simp [ho, Op.operands]))
  simp only [compOp, ho] at hr
  replace hr : opUn op (srcOf x) t h = .ok v h' := hr
  unfold opUn at hr
  generalize (srcOf x).ev t = xv at hx hr
  generalize hxx : a.eval x = xx at hx
  split at hr
  · cases hx
    simp only [R.ok.injEq] at hr; obtain ⟨rfl, rfl⟩ := hr
    exact OkRes.still hh (yl (s := Op.unary .not (a.eval x)) (by simp only [execOp, ho]) (by rw [hxx]; rfl)) (.bool _)
  · cases hx
    simp only [R.ok.injEq] at hr; obtain ⟨rfl, rfl⟩ := hr
    refine OkRes.still hh (u := .int _ _) (yl (s := Op.unary .neg (a.eval x)) (by simp only [execOp, ho]) (by rw [hxx]; rfl)) ?_
    rw [wrapF_eq]
    rename_i k n
    have : (0 : Int) - n = Int.neg n := by show _ = -n; omega
    rw [this]; exact .int _ _
  · cases hr
theorem bytesOf_nil : bytesOf [] = some [] := rfl
theorem bytesOf_cons (x : Value) (l : List Value) : bytesOf (x :: l) = match x with
    | .int .u8 n => match bytesOf l with | some r => some (UInt8.ofNat n.toNat :: r) | none => none
    | _ => none := by cases x <;> rfl
theorem bytesOf_spec : ∀ (l : List Value) (b : List UInt8), bytesOf l = some b → ∃ ns : List Int, l = ns.map (Value.int .u8) ∧ b = ns.map fun n => UInt8.ofNat n.toNat
  | [], b, h => by rw [bytesOf_nil] at h; injection h with h; subst h; exact ⟨[], rfl, rfl⟩
  | x :: l, b, h => by
    rw [bytesOf_cons] at h
    split at h
    · rename_i n
      cases hl : bytesOf l with
      | none => rw [hl] at h; cases h
      | some r =>
        rw [hl] at h; simp only [Option.some.injEq] at h; subst h
        obtain ⟨ns, e1, e2⟩ := bytesOf_spec l r hl
        exact ⟨n :: ns, by simp [e1], by simp [e2]⟩
    · cases h
theorem VRs.bytes {us : List Value} {ns : List Int} (h : VRs ρ us (ns.map (Value.int .u8))) : us = ns.map (Value.int .u8) := by
  apply List.ext_getElem?
  intro i
  by_cases hi : i < us.length
  · have hi' : i < ns.length := by have := h.1; simp at this; omega
    have := h.2 i us[i] (.int .u8 ns[i]) (by simp [hi]) (by simp [hi'])
    rw [List.getElem?_eq_getElem hi]
    generalize us[i] = u at this
    cases this
    simp [hi']
  · have : ¬ i < ns.length := by have := h.1; simp at this; omega
    rw [List.getElem?_eq_none (Nat.le_of_not_lt hi), List.getElem?_eq_none (by simp; omega)]
theorem foldl_push : ∀ (ns : List Int) (s : ByteArray), ns.foldl (fun r n => r.push (UInt8.ofNat n.toNat)) s = ⟨⟨s.data.toList ++ ns.map fun n => UInt8.ofNat n.toNat⟩⟩
  | [], s => by simp
  | n :: ns, s => by
    rw [List.foldl_cons, foldl_push ns]
    obtain ⟨⟨l⟩⟩ := s
    simp [ByteArray.push]
theorem foldl_push_empty (ns : List Int) : ns.foldl (fun r n => r.push (UInt8.ofNat n.toNat)) ByteArray.empty = ⟨⟨ns.map fun n => UInt8.ofNat n.toNat⟩⟩ := by
  rw [foldl_push]; rfl
/-- a text out of bytes -/
theorem snd_toString {src dst : TypeId} {x : Operand} {e : TypeId} (ho : o.op = .convert src dst x) (hs : P.underlying src = some (.slice e)) (hd : P.underlying dst = some .string) (he : P.underlying e = some (.int .u8)) (hok : Oks o) (hh : HR P ρ B h w) (ht : TR ρ nt a.tmps t)
    (hr : opToString (srcOf x) t h = .ok v h') : h' = h ∧ Goal P ρ B h w a o v h := by
  have hx := opd ht (hok x (by simp [ho, Op.operands]))
  unfold opToString at hr
  generalize (srcOf x).ev t = xv at hx hr
  generalize hxx : a.eval x = xx at hx
  split at hr
  · simp only [R.ok.injEq] at hr; obtain ⟨rfl, rfl⟩ := hr
    cases hx
    refine ⟨rfl, OkRes.still hh (yl (s := convert src dst (a.eval x)) (by simp only [execOp, ho]) ?_) (.string _)⟩
    rw [hxx, run_convert_bytes_string w src dst e none _ _ hs he hd]
    simp [Conv.bytesToString]
  · rename_i ad n c
    split at hr
    · rename_i l hl
      split at hr
      · rename_i b hb
        simp only [R.ok.injEq] at hr; obtain ⟨rfl, rfl⟩ := hr
        refine ⟨rfl, ?_⟩
        obtain ⟨ns, e1, e2⟩ := bytesOf_spec l b hb
        have fin : ∀ (c' o' k' x' : Nat), ρ ad.block = some (c', x') → ad.off = o' → xx = .slice (some ⟨c', o', none⟩) n k' → Goal P ρ B h w a o (.string ⟨⟨b⟩⟩) h := by
          intro c' o' k' x' hρ hoff hxe
          subst hoff
          obtain ⟨us, f1, f2, f3⟩ := hh.cellsOf hρ hl
          rw [e1] at f1
          have f4 := VRs.bytes f1
          refine OkRes.still hh (yl (s := convert src dst (a.eval x)) (by simp only [execOp, ho]) ?_) (.string _)
          rw [hxx, hxe, run_convert_bytes_string w src dst e _ _ _ hs he hd]
          have hc := run_cells (P := P) f3
          rw [f2, f4] at hc
          rw [run_bytesToString w _ n k' ns (by rw [hc]), foldl_push_empty, e2]
        cases hx with
        | slice o' l' k' e' => exact fin _ _ _ _ e' rfl rfl
        | sliceX o' l' k' e' => exact fin _ _ _ _ e' rfl rfl
        | sliceE o1 o2 k' i' e' =>
          simp only [AH.cellsOf, Option.some.injEq] at hl
          subst hl
          rw [bytesOf_nil] at hb; injection hb with hb; subst hb
          refine OkRes.still hh (yl (s := convert src dst (a.eval x)) (by simp only [execOp, ho]) ?_) (.string _)
          rw [hxx, run_convert_bytes_string w src dst e _ _ _ hs he hd]
          exact run_bytesToString w _ 0 k' [] (by rfl)
      · cases hr
    · cases hr
  · cases hr
theorem snd_toInt {src dst : TypeId} {x : Operand} {j k : IntKind} (ho : o.op = .convert src dst x) (hs : P.underlying src = some (.int j)) (hd : P.underlying dst = some (.int k)) (hok : Oks o) (hh : HR P ρ B h w) (ht : TR ρ nt a.tmps t)
    (hr : opToInt k (srcOf x) t h = .ok v h') : Goal P ρ B h w a o v h' := by
  have hx := opd ht (hok x (by simp [ho, Op.operands]))
  unfold opToInt at hr
  generalize (srcOf x).ev t = xv at hx hr
  generalize hxx : a.eval x = xx at hx
  split at hr
  · cases hx
    simp only [R.ok.injEq] at hr; obtain ⟨rfl, rfl⟩ := hr
    refine OkRes.still hh (u := .int k (k.wrap _)) (yl (s := convert src dst (a.eval x)) (by simp only [execOp, ho]) ?_) (by rw [wrapF_eq]; exact .int _ _)
    rw [hxx]; simp [convert, run_underlying hs, run_underlying hd, Conv.intToInt]
  · rename_i i k1 lo k2 hi e
    cases hc : (eqK k1 k && (eqK k2 k && (fits k lo && fits k hi))) with
    | false => rw [hc] at hr; cases hr
    | true =>
      rw [hc] at hr
      simp only [cond_true, R.ok.injEq] at hr; obtain ⟨rfl, rfl⟩ := hr
      rw [Bool.and_eq_true, Bool.and_eq_true, Bool.and_eq_true] at hc
      obtain ⟨c1, c2, c3, c4⟩ := hc
      have := eqK_eq c1; subst this
      have := eqK_eq c2; subst this
      cases hx with
      | opqI i e k n lo hi h1 h2 h3 =>
        have f1 := fits_range c3; have f2 := fits_range c4
        refine OkRes.still hh (u := .int k2 n) (yl (s := convert src dst (a.eval x)) (by simp only [execOp, ho]) ?_) (.opqI i e k2 n lo hi h1 h2 h3)
        have hw : k2.wrap n = n := wrap_range ⟨by omega, by omega⟩
        rw [hxx]; simp [convert, run_underlying hs, run_underlying hd, Conv.intToInt, hw]
  · cases hr
theorem snd_toFloat {src dst : TypeId} {x : Operand} {j : IntKind} {k : FloatKind} (ho : o.op = .convert src dst x) (hs : P.underlying src = some (.int j)) (hd : P.underlying dst = some (.float k)) (hok : Oks o) (hh : HR P ρ B h w) (ht : TR ρ nt a.tmps t)
    (hr : opToFloat k (srcOf x) t h = .ok v h') : Goal P ρ B h w a o v h' := by
  have hx := opd ht (hok x (by simp [ho, Op.operands]))
  unfold opToFloat at hr
  generalize (srcOf x).ev t = xv at hx hr
  generalize hxx : a.eval x = xx at hx
  split at hr
  · cases hx
    simp only [R.ok.injEq] at hr; obtain ⟨rfl, rfl⟩ := hr
    refine OkRes.still hh (yl (s := convert src dst (a.eval x)) (by simp only [execOp, ho]) ?_) (.float _ _)
    rw [hxx]; simp [convert, run_underlying hs, run_underlying hd, Conv.intToFloat]
  · cases hr
theorem snd_fromFloat {src dst : TypeId} {x : Operand} {k : IntKind} {j : FloatKind} (ho : o.op = .convert src dst x) (hs : P.underlying src = some (.float j)) (hd : P.underlying dst = some (.int k)) (hok : Oks o) (hh : HR P ρ B h w) (ht : TR ρ nt a.tmps t)
    (hr : opFromFloat k (srcOf x) t h = .ok v h') : Goal P ρ B h w a o v h' := by
  have hx := opd ht (hok x (by simp [ho, Op.operands]))
  unfold opFromFloat at hr
  generalize (srcOf x).ev t = xv at hx hr
  generalize hxx : a.eval x = xx at hx
  split at hr
  · cases hx
    split at hr
    · rename_i n hn
      split at hr
      · rename_i hrg
        simp only [R.ok.injEq] at hr; obtain ⟨rfl, rfl⟩ := hr
        refine OkRes.still hh (yl (s := convert src dst (a.eval x)) (by simp only [execOp, ho]) ?_) (.int _ _)
        rw [hxx]
        simp [convert, run_underlying hs, run_underlying hd, Conv.floatToInt, hn, hrg]
      · cases hr
    · cases hr
  · cases hr
/-! parts of values -/
theorem snd_extract {x : Operand} {i : Nat} (ho : o.op = .extract x i) (hok : Oks o) (hh : HR P ρ B h w) (ht : TR ρ nt a.tmps t) (hr : COp.run P (compOp P E o) t h = .ok v h') : Goal P ρ B h w a o v h' := by
  have hx := opd ht (hok x (by simp [ho, Op.operands]))
  simp only [compOp, ho] at hr
  replace hr : opExtract (srcOf x) i t h = .ok v h' := hr
  unfold opExtract at hr
  generalize (srcOf x).ev t = xv at hx hr
  generalize hxx : a.eval x = xx at hx
  split at hr
  · rename_i vs
    split at hr
    · rename_i u r hd
      simp only [R.ok.injEq] at hr; obtain ⟨rfl, rfl⟩ := hr
      cases hx with
      | tuple h1 h2 =>
        have hvi : vs.toList[i]? = some u := by
          have := List.getElem?_drop (xs := vs.toList) (i := i) (j := 0)
          rw [hd] at this; simpa using this.symm
        obtain ⟨u', e1, e2⟩ := (VRs.of_arr h1 h2).get hvi
        refine OkRes.still hh (yl (s := Instr.extract (a.eval x) i) (by simp only [execOp, ho]) ?_) e2
        rw [hxx]
        rw [Array.getElem?_toList] at e1
        simp [Instr.extract, e1]
    · cases hr
  · cases hr
theorem field_at {fs : Array Field} {i : Nat} {f : Field} {r : List Field} (h : fs.toList.drop i = f :: r) : fs[i]? = some f := by
  have := List.getElem?_drop (xs := fs.toList) (i := i) (j := 0)
  rw [h] at this; simpa using this.symm
theorem snd_fieldAddr {ty : TypeId} {x : Operand} {i : Nat} (ho : o.op = .fieldAddr ty x i) (hok : Oks o) (hh : HR P ρ B h w) (ht : TR ρ nt a.tmps t) (hr : COp.run P (compOp P E o) t h = .ok v h') : Goal P ρ B h w a o v h' := by
  have hx := opd ht (hok x (by simp [ho, Op.operands]))
  simp only [compOp, ho] at hr
  split at hr
  · rename_i fs hu
    split at hr
    · rename_i f r hd
      split at hr
      · cases hr
      · rename_i n hn0 hn
        replace hr : opOffAddr f.offset (srcOf x) t h = .ok v h' := hr
        unfold opOffAddr at hr
        generalize (srcOf x).ev t = xv at hx hr
        generalize hxx : a.eval x = xx at hx
        split at hr
        · simp only [R.ok.injEq] at hr; obtain ⟨rfl, rfl⟩ := hr
          cases hx with
          | ptr o' s e =>
            refine OkRes.still hh (yl (s := Instr.fieldAt ty (a.eval x) i) (by simp only [execOp, ho]) ?_) (.ptr (o' + f.offset) none e)
            rw [hxx]
            have hne : n ≠ 0 := fun e => hn0 (by first | (rw [← e]; done) | (rw [← e]; exact hn))
            simp [Instr.fieldAt, run_underlying hu, field_at hd, Instr.sureAddr, fieldPlace, run_sizeT hn, hne, addr_add]
        · cases hr
      · cases hr
    · cases hr
  · cases hr
theorem run_part {ty : TypeId} {n : Nat} {ag : Bool} (hs : sizeT P ty = some n) (hg : isAggT P ty = some ag) (cs : Array Value) (off : Nat) :
    (part ty cs off).run P w = if ag then .ok (.agg (cs.extract off (off + n))) w else match cs[off]? with | some u => .ok u w | none => .halt (.stuck "part: no such cell") w := by
  unfold part
  cases ag with
  | true => simp [run_isAggT hg, run_sizeT hs]
  | false => simp [run_isAggT hg]; cases cs[off]? <;> rfl
theorem opSub_spec {off n : Nat} {ag : Bool} {x : Src} (hr : opSub off n ag x t h = .ok v h') : h' = h ∧ ∃ cs, x.ev t = .agg cs ∧ ((ag = true ∧ v = .agg ⟨(cs.toList.drop off).take n⟩) ∨ (ag = false ∧ cs.toList[off]? = some v)) := by
  unfold opSub at hr
  split at hr
  · rename_i cs hcs
    cases ag with
    | true => simp only [cond_true, R.ok.injEq] at hr; obtain ⟨rfl, rfl⟩ := hr; exact ⟨rfl, cs, hcs, .inl ⟨rfl, rfl⟩⟩
    | false =>
      simp only [cond_false] at hr
      split at hr
      · rename_i u r hd
        simp only [R.ok.injEq] at hr; obtain ⟨rfl, rfl⟩ := hr
        have := List.getElem?_drop (xs := cs.toList) (i := off) (j := 0)
        rw [hd] at this
        exact ⟨rfl, cs, hcs, .inr ⟨rfl, by simpa using this.symm⟩⟩
      · cases hr
  · cases hr
theorem snd_field {ty : TypeId} {x : Operand} {i : Nat} (ho : o.op = .field ty x i) (hok : Oks o) (hh : HR P ρ B h w) (ht : TR ρ nt a.tmps t) (hr : COp.run P (compOp P E o) t h = .ok v h') : Goal P ρ B h w a o v h' := by
  have hx := opd ht (hok x (by simp [ho, Op.operands]))
  simp only [compOp, ho] at hr
  split at hr
  · rename_i fs hu
    split at hr
    · rename_i f r hd
      split at hr
      · rename_i n b hn hb
        obtain ⟨rfl, cs, e1, e2⟩ := opSub_spec (show opSub f.offset n b (srcOf x) t h = .ok v h' from hr)
        rw [e1] at hx
        generalize hxx : a.eval x = xx at hx
        cases hx with
        | agg h1 h2 =>
          have hvs := VRs.of_arr h1 h2
          rcases e2 with ⟨rfl, rfl⟩ | ⟨rfl, e3⟩
          · refine OkRes.still hh (yl (s := Instr.field ty (a.eval x) i) (by simp only [execOp, ho]) (by rw [hxx]; simp [Instr.field, run_underlying hu, field_at hd, asAgg, run_part hn hb]; rfl)) ?_
            refine .agg_of ?_
            have : ∀ (c : Array Value), (c.extract f.offset (f.offset + n)).toList = (c.toList.drop f.offset).take n := fun c => by simp [List.extract_eq_take_drop]
            rw [this]; exact (hvs.drop _).take _
          · obtain ⟨u', f1, f2⟩ := hvs.get e3
            rw [Array.getElem?_toList] at f1
            refine OkRes.still hh (yl (s := Instr.field ty (a.eval x) i) (by simp only [execOp, ho]) (by rw [hxx]; simp [Instr.field, run_underlying hu, field_at hd, asAgg, run_part hn hb, f1])) f2
      · cases hr
    · cases hr
  · cases hr
theorem snd_indexStr {ty : TypeId} {x i : Operand} (ho : o.op = .index ty x i) (hok : Oks o) (hh : HR P ρ B h w) (ht : TR ρ nt a.tmps t) (hr : COp.run P (compOp P E o) t h = .ok v h') : Goal P ρ B h w a o v h' := by
  have hx := opd ht (hok x (by simp [ho, Op.operands]))
  have hi := opd ht (hok i (by simp [ho, Op.operands]))
  simp only [compOp, ho] at hr
  split at hr
  · rename_i hu
    replace hr : opIndexStr (srcOf x) (srcOf i) t h = .ok v h' := hr
    unfold opIndexStr at hr
    generalize (srcOf x).ev t = xv at hx hr
    generalize hxx : a.eval x = xx at hx
    generalize (srcOf i).ev t = iv at hi hr
    generalize hii : a.eval i = ii at hi
    split at hr
    · rename_i s k n
      cases hx; cases hi
      split at hr
      · rename_i b r hd
        simp only [R.ok.injEq] at hr; obtain ⟨rfl, rfl⟩ := hr
        have hb : s.data[n]? = some b := by
          have := List.getElem?_drop (xs := s.data.toList) (i := n) (j := 0)
          rw [hd] at this; simpa using this.symm
        have hb' : s[n]? = some b := hb
        refine OkRes.still hh (yl (s := Instr.index ty (a.eval x) (a.eval i)) (by simp only [execOp, ho]) ?_) (.int _ _)
        rw [hxx, hii]
        simp [Instr.index, asIntOf, run_underlying hu, hb']
      · cases hr
    · cases hr
  · cases hr
theorem snd_indexAddr {ty : TypeId} {x i : Operand} (ho : o.op = .indexAddr ty x i) (hok : Oks o) (hh : HR P ρ B h w) (ht : TR ρ nt a.tmps t) (hr : COp.run P (compOp P E o) t h = .ok v h') : Goal P ρ B h w a o v h' := by
  have hx := opd ht (hok x (by simp [ho, Op.operands]))
  have hi := opd ht (hok i (by simp [ho, Op.operands]))
  simp only [compOp, ho] at hr
  split at hr
  · rename_i e hu
    split at hr
    · rename_i n hn
      replace hr : opIndexSlice n (srcOf x) (srcOf i) t h = .ok v h' := hr
      unfold opIndexSlice at hr
      generalize (srcOf x).ev t = xv at hx hr
      generalize hxx : a.eval x = xx at hx
      generalize (srcOf i).ev t = iv at hi hr
      generalize hii : a.eval i = ii at hi
      split at hr
      · rename_i ad len cap k m
        cases hi
        cases hlt : Nat.blt m len with
        | false => rw [hlt] at hr; cases hr
        | true =>
          rw [hlt] at hr
          simp only [cond_true, R.ok.injEq] at hr; obtain ⟨rfl, rfl⟩ := hr
          have hlt := (blt_iff _ _).1 hlt
          have fin : ∀ (c' o' k' x' : Nat), ρ ad.block = some (c', x') → ad.off = o' → xx = .slice (some ⟨c', o', none⟩) len k' → Goal P ρ B h w a o (.pointer (some ⟨ad.block, ad.off + m * n, none⟩)) h := by
            intro c' o' k' x' hρ hoff hxe
            subst hoff
            refine OkRes.still hh (yl (s := Instr.indexAt ty (a.eval x) (a.eval i)) (by simp only [execOp, ho]) ?_) (.ptr (ad.off + m * n) none hρ)
            rw [hxx, hii, hxe]
            simp [Instr.indexAt, asIntOf, run_underlying hu, hlt, run_sizeT hn, addr_add]
          cases hx with
          | slice o' l' k' e' => exact fin _ _ _ _ e' rfl rfl
          | sliceX o' l' k' e' => exact fin _ _ _ _ e' rfl rfl
          | sliceE o1 o2 k' i' e' => omega
      · cases hr
    · cases hr
  · rename_i len e hu
    split at hr
    · rename_i n hn
      replace hr : opIndexArr len n (srcOf x) (srcOf i) t h = .ok v h' := hr
      unfold opIndexArr at hr
      generalize (srcOf x).ev t = xv at hx hr
      generalize hxx : a.eval x = xx at hx
      generalize (srcOf i).ev t = iv at hi hr
      generalize hii : a.eval i = ii at hi
      split at hr
      · rename_i ad k m
        cases hi
        cases hlt : Nat.blt m len with
        | false => rw [hlt] at hr; cases hr
        | true =>
          rw [hlt] at hr
          simp only [cond_true, R.ok.injEq] at hr; obtain ⟨rfl, rfl⟩ := hr
          have hlt := (blt_iff _ _).1 hlt
          cases hx with
          | ptr o' s e' =>
            refine OkRes.still hh (yl (s := Instr.indexAt ty (a.eval x) (a.eval i)) (by simp only [execOp, ho]) ?_) (.ptr (o' + m * n) none e')
            rw [hxx, hii]
            simp [Instr.indexAt, asIntOf, run_underlying hu, hlt, run_sizeT hn, addr_add, Instr.sureAddr]
      · cases hr
    · cases hr
  · cases hr
end Go.Ev
namespace Go.Ev
variable [Opq]
variable {ox oy : Operand} {P : Program} {E : List (Nat × Ext)} {ρ : Map} {B nt : Nat} {h h' : AH} {w : World} {a : Act} {t : Tr Value} {o : Oper} {v : Value}
theorem natOr_spec (ht : TR ρ nt a.tmps t) {lo : Option Operand} {d n : Nat} (hok : ∀ x, lo = some x → okOpd x = true) (hn : natOr (osrc lo) t d = some n) :
    (lo.map a.eval = none ∧ n = d) ∨ ∃ k, lo.map a.eval = some (.int k (Int.ofNat n)) := by
  cases lo with
  | none => simp only [osrc, natOr, Option.some.injEq] at hn; exact .inl ⟨rfl, hn.symm⟩
  | some x =>
    have hx := opd ht (hok x rfl)
    simp only [osrc, natOr] at hn
    generalize (srcOf x).ev t = xv at hx hn
    split at hn
    · rename_i k m
      simp only [Option.some.injEq] at hn; subst hn
      refine .inr ⟨k, ?_⟩
      show some (a.eval x) = _
      generalize a.eval x = xx at hx
      cases hx; rfl
    · cases hn
theorem run_sliceBound {k : IntKind} {n y : Nat} {c : BoundsCode} (h : n ≤ y) : (Instr.sliceBound (.int k (n : Int)) y c).run P w = .ok n w := by
  simp [Instr.sliceBound, asIntOf, h]
theorem run_sliceBounds {sl : Bool} {len c l u m : Nat} {lo hi mx : Option Value} (hl : (lo = none ∧ l = 0) ∨ ∃ k, lo = some (.int k (Int.ofNat l))) (hu : (hi = none ∧ u = len) ∨ ∃ k, hi = some (.int k (Int.ofNat u)))
    (hm : (mx = none ∧ m = c) ∨ ((∃ k, mx = some (.int k (Int.ofNat m))) ∧ hi ≠ none)) (h1 : l ≤ u) (h2 : u ≤ m) (h3 : m ≤ c) : (Instr.sliceBounds sl len c lo hi mx).run P w = .ok (l, u, m) w := by
  unfold Instr.sliceBounds
  rcases hm with ⟨rfl, rfl⟩ | ⟨⟨k3, rfl⟩, hne⟩
  · rcases hu with ⟨rfl, rfl⟩ | ⟨k2, rfl⟩ <;> rcases hl with ⟨rfl, rfl⟩ | ⟨k1, rfl⟩ <;> simp [run_sliceBound, h1, h2, h3] 
  · rcases hu with ⟨rfl, rfl⟩ | ⟨k2, rfl⟩
    · exact absurd rfl hne
    · rcases hl with ⟨rfl, rfl⟩ | ⟨k1, rfl⟩ <;> simp [run_sliceBound, h1, h2, h3]
theorem map_add (ad : Addr) (n : Nat) : (some ad).map (·.add n) = some (ad.add n) := rfl
theorem snd_slice {ty e : TypeId} {x : Operand} {lo hi mx : Option Operand} {n : Nat} (ho : o.op = .slice ty x lo hi mx) (hu : P.underlying ty = some (.slice e)) (hn : sizeT P e = some n) (hmx : mx ≠ none → hi ≠ none) (hok : Oks o)
    (hh : HR P ρ B h w) (ht : TR ρ nt a.tmps t) (hr : opSlice n (srcOf x) (osrc lo) (osrc hi) (osrc mx) t h = .ok v h') : Goal P ρ B h w a o v h' := by
  have hx := opd ht (hok x (by simp [ho, Op.operands]))
  unfold opSlice at hr
  generalize (srcOf x).ev t = xv at hx hr
  generalize hxx : a.eval x = xx at hx
  split at hr
  · rename_i ad len cap
    split at hr
    · rename_i l u m hl hv hm
      have hl' := natOr_spec ht (fun y e => hok y (by simp [ho, Op.operands, e])) hl
      have hv' := natOr_spec ht (fun y e => hok y (by simp [ho, Op.operands, e])) hv
      have hm' := natOr_spec ht (fun y e => hok y (by simp [ho, Op.operands, e])) hm
      cases hc : (Nat.ble l u && (Nat.ble u m && Nat.ble m cap)) with
      | false => rw [hc] at hr; cases hr
      | true =>
        rw [hc] at hr
        simp only [cond_true] at hr
        rw [Bool.and_eq_true, Bool.and_eq_true] at hc
        have c1 := Nat.le_of_ble_eq_true hc.1
        have c2 := Nat.le_of_ble_eq_true hc.2.1
        have c3 := Nat.le_of_ble_eq_true hc.2.2
        -- what the machine does at a capacity c of its own
        have run : ∀ (p : Option Addr) (c m' : Nat), cap ≤ c → (mx = none → m' = c) → (mx ≠ none → m' = m) → xx = .slice p len c →
            (Instr.sliceAt ty (a.eval x) (lo.map a.eval) (hi.map a.eval) (mx.map a.eval)).run P w = .ok (.slice (if m' = l then p else p.map (·.add (l * n))) (u - l) (m' - l)) w := by
          intro p c m' hcap e1 e2 exx
          rw [hxx, exx]
          have hb : (Instr.sliceBounds true len c (lo.map a.eval) (hi.map a.eval) (mx.map a.eval)).run P w = .ok (l, u, m') w := by
            refine run_sliceBounds hl' hv' ?_ c1 ?_ ?_
            · cases mx with
              | none => exact .inl ⟨rfl, e1 rfl⟩
              | some y =>
                have := e2 (by simp); subst this
                rcases hm' with ⟨hf, _⟩ | hk
                · cases hf
                · refine .inr ⟨hk, ?_⟩
                  have := hmx (by simp)
                  cases hi with
                  | none => exact absurd rfl this
                  | some z => simp
            · cases mx with
              | none => have := e1 rfl; omega
              | some y => have := e2 (by simp); omega
            · cases mx with
              | none => have := e1 rfl; omega
              | some y => have := e2 (by simp); omega
          simp [Instr.sliceAt, run_underlying hu, Instr.slice, hb, run_sizeT hn]
        have fin : ∀ {r : Value}, (Instr.sliceAt ty (a.eval x) (lo.map a.eval) (hi.map a.eval) (mx.map a.eval)).run P w = .ok r w → VR ρ r v → h' = h → Goal P ρ B h w a o v h' := fun e1 e2 e3 => by
          subst e3; exact OkRes.still hh (yl (by simp only [execOp, ho]) e1) e2
        have mxn : mx = none → m = cap := fun e => by subst e; rcases hm' with ⟨_, e⟩ | ⟨k, e⟩; exact e; cases e
        split at hr
        · simp only [R.ok.injEq] at hr; obtain ⟨rfl, rfl⟩ := hr
          cases hx
          have := run none cap m (Nat.le_refl _) mxn (fun _ => rfl) rfl
          refine fin this ?_ rfl
          have e : (if m = l then (none : Option Addr) else (none : Option Addr).map (fun (y : Addr) => y.add (l * n))) = none := by split <;> rfl
          rw [e]; exact .nilSlice _ _
        · rename_i ad
          obtain ⟨b, of, sp⟩ := ad
          simp only [] at hr
          split at hr
          · simp only [R.ok.injEq] at hr; obtain ⟨rfl, rfl⟩ := hr
            cases hx with
            | slice o' l' k' e' =>
              have := run (some _) cap m (Nat.le_refl _) mxn (fun _ => rfl) rfl
              refine fin this ?_ rfl
              by_cases hml : m = l
              · subst hml; rw [if_pos rfl, Nat.beq_refl]; exact .slice _ _ _ e'
              · rw [if_neg hml, map_add, addr_add]
                have : Nat.beq m l = false := by rw [beq_dec]; simp [hml]
                rw [this]; exact .slice _ _ _ e'
          · cases hx with
            | sliceX o' l' k' e' =>
              rename_i c0 x0
              cases hmx0 : mx with
              | none =>
                have e0 : osrc mx = none := by rw [hmx0]; rfl
                rw [e0] at hr
                simp only [] at hr
                have hmc := mxn hmx0; subst hmc
                have run' := run (some ⟨c0, of, none⟩) (m + x0) (m + x0) (by omega) (fun _ => rfl) (fun e => absurd hmx0 e) rfl
                cases hz : (Nat.beq l 0 || Nat.blt l m) with
                | true =>
                  rw [hz] at hr
                  simp only [cond_true, R.ok.injEq] at hr; obtain ⟨rfl, rfl⟩ := hr
                  refine fin run' ?_ rfl
                  rw [Bool.or_eq_true] at hz
                  have ea : (if m + x0 = l then some (⟨c0, of, none⟩ : Addr) else (some (⟨c0, of, none⟩ : Addr)).map (fun (y : Addr) => y.add (l * n))) = some ⟨c0, of + l * n, none⟩ := by
                    rcases hz with hz | hz
                    · have := Nat.eq_of_beq_eq_true hz; subst this
                      split <;> simp [addr_add]
                    · have := (blt_iff _ _).1 hz
                      rw [if_neg (by omega), map_add, addr_add]
                  rw [ea, show m + x0 - l = m - l + x0 by omega]
                  exact .sliceX _ _ _ e'
                | false =>
                  rw [hz] at hr
                  simp only [cond_false, R.ok.injEq] at hr; obtain ⟨rfl, rfl⟩ := hr
                  rw [Bool.or_eq_false_iff] at hz
                  have hlm : ¬ l < m := fun hh => by have := (blt_iff l m).2 hh; rw [hz.2] at this; cases this
                  refine fin run' ?_ rfl
                  rw [show u - l = 0 by omega]
                  split
                  · exact .sliceE _ _ _ _ e'
                  · rw [map_add, addr_add]; exact .sliceE _ _ _ _ e'
              | some y =>
                have e0 : osrc mx = some (srcOf y) := by rw [hmx0]; rfl
                rw [e0] at hr
                simp only [R.ok.injEq] at hr; obtain ⟨rfl, rfl⟩ := hr
                have run' := run (some ⟨c0, of, none⟩) (cap + x0) m (by omega) (fun e => by rw [hmx0] at e; cases e) (fun _ => rfl) rfl
                refine fin run' ?_ rfl
                by_cases hml : m = l
                · subst hml; rw [if_pos rfl, Nat.beq_refl]; exact .slice _ _ _ e'
                · rw [if_neg hml, map_add, addr_add]
                  have : Nat.beq m l = false := by rw [beq_dec]; simp [hml]
                  rw [this]; exact .slice _ _ _ e'
          · split at hr
            · rename_i i0 e0
              simp only [R.ok.injEq] at hr; obtain ⟨rfl, rfl⟩ := hr
              cases hx with
              | sliceE o1 o2 k' i' e' =>
                rename_i c0 x0
                have hmx0 : mx = none := by cases mx with | none => rfl | some y => cases e0
                have run' := run (some ⟨c0, o2, none⟩) k' k' (by omega) (fun _ => rfl) (fun e => absurd hmx0 e) rfl
                have el : l = 0 := by omega
                have eu : u = 0 := by omega
                subst el; subst eu
                refine fin run' ?_ rfl
                have ea : (if k' = 0 then some (⟨c0, o2, none⟩ : Addr) else (some (⟨c0, o2, none⟩ : Addr)).map (fun (y : Addr) => y.add (0 * n))) = some ⟨c0, o2, none⟩ := by split <;> simp [addr_add]
                rw [ea]; exact .sliceE _ _ _ _ e'
            · cases hr
    · cases hr
  · cases hr
theorem extract_list (s : ByteArray) (l u : Nat) : s.extract l u = ⟨⟨(s.data.toList.drop l).take (u - l)⟩⟩ := by
  apply ByteArray.ext
  apply Array.ext'
  simp [ByteArray.data_extract, List.extract_eq_take_drop]
theorem snd_sliceStr {ty : TypeId} {x : Operand} {lo hi : Option Operand} (ho : o.op = .slice ty x lo hi none) (hu : P.underlying ty = some .string) (hok : Oks o)
    (hh : HR P ρ B h w) (ht : TR ρ nt a.tmps t) (hr : opSliceStr (srcOf x) (osrc lo) (osrc hi) t h = .ok v h') : Goal P ρ B h w a o v h' := by
  have hx := opd ht (hok x (by simp [ho, Op.operands]))
  unfold opSliceStr at hr
  generalize (srcOf x).ev t = xv at hx hr
  generalize hxx : a.eval x = xx at hx
  split at hr
  · rename_i s
    cases hx
    split at hr
    · rename_i l u hl hv
      have hl' := natOr_spec ht (fun y e => hok y (by simp [ho, Op.operands, e])) hl
      have hv' := natOr_spec ht (fun y e => hok y (by simp [ho, Op.operands, e])) hv
      cases hc : (Nat.ble l u && Nat.ble u s.data.toList.length) with
      | false => rw [hc] at hr; cases hr
      | true =>
        rw [hc] at hr
        simp only [cond_true, R.ok.injEq] at hr; obtain ⟨rfl, rfl⟩ := hr
        rw [Bool.and_eq_true] at hc
        have c1 := Nat.le_of_ble_eq_true hc.1
        have c2 := Nat.le_of_ble_eq_true hc.2
        have es : s.size = s.data.toList.length := rfl
        have hb : (Instr.sliceBounds false s.size s.size (lo.map a.eval) (hi.map a.eval) none).run P w = .ok (l, u, s.size) w := by
          refine run_sliceBounds hl' ?_ (.inl ⟨rfl, rfl⟩) c1 (by rw [es]; exact c2) (Nat.le_refl _)
          rw [es]; exact hv'
        refine OkRes.still hh (yl (s := Instr.sliceAt ty (a.eval x) (lo.map a.eval) (hi.map a.eval) none) (by simp only [execOp, ho]; rfl) ?_) (.string _)
        rw [hxx, ← extract_list]
        simp [Instr.sliceAt, run_underlying hu, Instr.slice, hb]
    · cases hr
  · cases hr
end Go.Ev
namespace Go.Ev
variable [Opq]
variable {ox oy : Operand} {P : Program} {E : List (Nat × Ext)} {ρ : Map} {B nt : Nat} {h h' : AH} {w : World} {a : Act} {t : Tr Value} {o : Oper} {v : Value}
/-! builtins -/
theorem arr1 {α : Type} {a : Array α} {x : α} (h : a.toList = [x]) : a = #[x] := by apply Array.ext'; simpa using h
theorem arr2 {α : Type} {a : Array α} {x y : α} (h : a.toList = [x, y]) : a = #[x, y] := by apply Array.ext'; simpa using h
theorem map1 {α β : Type} (f : α → β) (x : α) : (#[x] : Array α).map f = #[f x] := by simp
theorem map2 {α β : Type} (f : α → β) (x y : α) : (#[x, y] : Array α).map f = #[f x, f y] := by simp
/-- a call of a builtin -/
theorem yb {c : Call} {b : Builtin} {u : Value} {w' : World} (ho : o.op = .call c) (hc : c.callee = .builtin b)
    (hr : ∀ cs, (builtin b c.argTypes o.type cs (c.args.map a.eval)).run P w = .ok (.value u) w') : Yields P o a w u w' := by
  refine .inl ?_
  simp only [execOp, ho, resolve, hc]
  simp only [Sem.run_bind, Sem.run_pure, Result.andThen]
  exact hr _
theorem bval {s : Sem Value} {u : Value} {w' : World} (h : s.run P w = .ok u w') : ((do pure (Next.value (← s)) : Sem Next)).run P w = .ok (.value u) w' := run_value s h
theorem okArg {c : Call} (ho : o.op = .call c) (hok : Oks o) {x : Operand} (hx : x ∈ c.args.toList) : okOpd x = true := hok x (by simp [ho, Op.operands, Call.operands]; exact .inr (by simpa using hx))
theorem minmaxL_spec {mn : Bool} : ∀ (l : List Value) {k : IntKind} {m : Int} {r : Value}, (List.rec (motive := fun _ => Int → Option Value) (fun a => some (.int k a)) (fun v _ ih a => match v with
      | .int _ b => bif mn then ih (bif ltI b a then b else a) else ih (bif ltI a b then b else a)
      | _ => none) l m) = some r → ∃ n, r = .int k n ∧ ∀ {lc : List Value}, VRs ρ lc l → (lc.foldlM (if mn then Builtin.min2 else Builtin.max2) (.int k m)).run P w = .ok (.int k n) w
  | [], k, m, r, h => by
    simp only [Option.some.injEq] at h; subst h
    refine ⟨m, rfl, fun {lc} hl => ?_⟩
    have : lc = [] := List.eq_nil_of_length_eq_zero hl.1
    subst this; rfl
  | x :: l, k, m, r, h => by
    simp only [] at h
    split at h
    · rename_i kb b
      have key : ∀ (q : Int), (if mn then Builtin.min2 else Builtin.max2) (.int k m) (.int kb b) = (pure (Value.int k q) : Sem Value) → _ = some r → ∃ n, r = .int k n ∧ ∀ {lc : List Value}, VRs ρ lc (.int kb b :: l) → (lc.foldlM (if mn then Builtin.min2 else Builtin.max2) (.int k m)).run P w = .ok (.int k n) w := fun q hq h => by
        obtain ⟨n, e1, e2⟩ := minmaxL_spec (mn := mn) l (m := q) h
        refine ⟨n, e1, fun {lc} hl => ?_⟩
        cases lc with
        | nil => have := hl.1; cases this
        | cons y lc =>
          have hy := hl.2 0 y _ rfl rfl
          cases hy
          rw [List.foldlM_cons, hq]
          simp only [Sem.run_bind, Sem.run_pure, Result.andThen]
          exact e2 ⟨by have := hl.1; simpa using this, fun i u v hu hv => hl.2 (i + 1) u v (by simpa using hu) (by simpa using hv)⟩
      cases mn with
      | true =>
        simp only [cond_true] at h
        refine key _ ?_ h
        simp only [if_true, Builtin.min2, ltI_eq]
        by_cases hb : b < m <;> simp [hb]
      | false =>
        simp only [cond_false] at h
        refine key _ ?_ h
        simp only [Bool.false_eq_true, if_false, Builtin.max2, ltI_eq]
        by_cases hb : m < b <;> simp [hb]
    · cases h
theorem snd_minmax {c : Call} {mn : Bool} (ho : o.op = .call c) (hc : c.callee = .builtin (if mn then .min else .max)) (hok : Oks o) (hh : HR P ρ B h w) (ht : TR ρ nt a.tmps t)
    (hr : opMinmax mn (srcs c.args.toList) t h = .ok v h') : Goal P ρ B h w a o v h' := by
  have hl := opds (ρ := ρ) (a := a) ht c.args.toList fun x hx => okArg ho hok hx
  unfold opMinmax at hr
  split at hr
  · rename_i r hm
    simp only [R.ok.injEq] at hr; obtain ⟨rfl, rfl⟩ := hr
    generalize evs (srcs c.args.toList) t = l at hl hm
    unfold minmaxL at hm
    split at hm
    · rename_i k m l'
      obtain ⟨n, rfl, e2⟩ := minmaxL_spec (ρ := ρ) (P := P) (w := w) (mn := mn) l' hm
      refine OkRes.still hh (yb ho hc fun cs => ?_) (.int _ _)
      have hargs : (c.args.map a.eval).toList = c.args.toList.map a.eval := by simp
      cases hcl : c.args.toList.map a.eval with
      | nil => rw [hcl] at hl; have := hl.1; cases this
      | cons y lc =>
        rw [hcl] at hl
        have hy := hl.2 0 y _ rfl rfl
        cases hy
        have hrest := e2 (lc := lc) ⟨by have := hl.1; simpa using this, fun i u v hu hv => hl.2 (i + 1) u v (by simpa using hu) (by simpa using hv)⟩
        cases mn with
        | true =>
          simp only [if_true] at hrest ⊢
          refine bval (s := Builtin.min_ c.argTypes o.type (c.args.map a.eval)) ?_
          simp only [Builtin.min_, hargs, hcl]; exact hrest
        | false =>
          simp only [Bool.false_eq_true, if_false] at hrest ⊢
          refine bval (s := Builtin.max_ c.argTypes o.type (c.args.map a.eval)) ?_
          simp only [Builtin.max_, hargs, hcl]; exact hrest
    · cases hm
  · cases hr
theorem snd_complex {c : Call} {x y : Operand} (ho : o.op = .call c) (hc : c.callee = .builtin .complex) (ha : c.args.toList = [x, y]) (hok : Oks o) (hh : HR P ρ B h w) (ht : TR ρ nt a.tmps t)
    (hr : opComplex (srcOf x) (srcOf y) t h = .ok v h') : Goal P ρ B h w a o v h' := by
  have hx := opd ht (okArg ho hok (x := x) (by simp [ha]))
  have hy := opd ht (okArg ho hok (x := y) (by simp [ha]))
  have ea := arr2 ha
  unfold opComplex at hr
  generalize (srcOf x).ev t = xv at hx hr
  generalize hxx : a.eval x = xx at hx
  generalize (srcOf y).ev t = yv at hy hr
  generalize hyy : a.eval y = yy at hy
  split at hr
  · cases hx; cases hy
    simp only [R.ok.injEq] at hr; obtain ⟨rfl, rfl⟩ := hr
    refine OkRes.still hh (yb ho hc fun cs => ?_) (.complex _ _ _)
    rw [ea]
    rw [map2, hxx, hyy]; rfl
  · cases hr
theorem snd_part {c : Call} {x : Operand} {im : Bool} (ho : o.op = .call c) (hc : c.callee = .builtin (if im then .imag else .real)) (ha : c.args.toList = [x]) (hok : Oks o) (hh : HR P ρ B h w) (ht : TR ρ nt a.tmps t)
    (hr : opPart im (srcOf x) t h = .ok v h') : Goal P ρ B h w a o v h' := by
  have hx := opd ht (okArg ho hok (x := x) (by simp [ha]))
  have ea := arr1 ha
  unfold opPart at hr
  generalize (srcOf x).ev t = xv at hx hr
  generalize hxx : a.eval x = xx at hx
  split at hr
  · cases hx
    simp only [R.ok.injEq] at hr; obtain ⟨rfl, rfl⟩ := hr
    refine OkRes.still hh (yb ho hc fun cs => ?_) (.float _ _)
    rw [ea]
    rw [map1, hxx]; cases im <;> rfl
  · cases hr
theorem snd_cap {c : Call} {x : Operand} {ty e : TypeId} (ho : o.op = .call c) (hc : c.callee = .builtin .cap) (ha : c.args.toList = [x]) (hty : c.argTypes.toList = [ty]) (hu : P.underlying ty = some (.slice e)) (hok : Oks o) (hh : HR P ρ B h w) (ht : TR ρ nt a.tmps t)
    (hr : opCap (srcOf x) t h = .ok v h') : Goal P ρ B h w a o v h' := by
  have hx := opd ht (okArg ho hok (x := x) (by simp [ha]))
  have ea := arr1 ha
  have et := arr1 hty
  unfold opCap at hr
  generalize (srcOf x).ev t = xv at hx hr
  generalize hxx : a.eval x = xx at hx
  split at hr
  · cases hx
    simp only [R.ok.injEq] at hr; obtain ⟨rfl, rfl⟩ := hr
    refine OkRes.still hh (yb ho hc fun cs => ?_) (.int _ _)
    rw [ea, et]; simp [builtin, Builtin.cap_, hxx, run_underlying hu, goInt]
  · rename_i ad l k
    obtain ⟨b, of, sp⟩ := ad
    split at hr
    · rename_i hsp
      simp only [] at hsp; subst hsp
      simp only [R.ok.injEq] at hr; obtain ⟨rfl, rfl⟩ := hr
      cases hx
      refine OkRes.still hh (yb ho hc fun cs => ?_) (.int _ _)
      rw [ea, et]; simp [builtin, Builtin.cap_, hxx, run_underlying hu, goInt]
    · cases hr
  · cases hr
theorem run_sliceData {ts : Array TypeId} {ty : TypeId} {ad : Addr} {l k : Nat} (hk : k ≠ 0) : (Builtin.unsafeSliceData_ ts ty #[.slice (some ad) l k]).run P w = .ok (.pointer (some ad)) w := by
  show (if k ≠ 0 then pure (.pointer (some ad)) else _ : Sem Value).run P w = _
  rw [if_pos hk]; rfl
theorem snd_sliceData {c : Call} {x : Operand} (ho : o.op = .call c) (hc : c.callee = .builtin .unsafeSliceData) (ha : c.args.toList = [x]) (hok : Oks o) (hh : HR P ρ B h w) (ht : TR ρ nt a.tmps t)
    (hr : opSliceData (srcOf x) t h = .ok v h') : Goal P ρ B h w a o v h' := by
  have hx := opd ht (okArg ho hok (x := x) (by simp [ha]))
  have ea := arr1 ha
  unfold opSliceData at hr
  generalize (srcOf x).ev t = xv at hx hr
  generalize hxx : a.eval x = xx at hx
  split at hr
  · cases hx
    simp only [R.ok.injEq] at hr; obtain ⟨rfl, rfl⟩ := hr
    refine OkRes.still hh (yb ho hc fun cs => ?_) .nilPtr
    rw [ea]
    rw [map1, hxx]; rfl
  · rename_i ad l k
    split at hr
    · cases hr
    · rename_i hk
      simp only [R.ok.injEq] at hr; obtain ⟨rfl, rfl⟩ := hr
      cases hx with
      | slice o' l' k' e' =>
        refine OkRes.still hh (yb ho hc fun cs => ?_) (.ptr o' none e')
        rw [ea]
        have hk' : k ≠ 0 := fun e => hk e
        rw [map1, hxx]; exact bval (run_sliceData hk')
      | sliceX o' l' k' e' =>
        rename_i c0 x0
        refine OkRes.still hh (yb ho hc fun cs => ?_) (.ptr o' none e')
        rw [ea]
        have hk' : k + x0 ≠ 0 := fun e => hk (by omega)
        rw [map1, hxx]; exact bval (run_sliceData hk')
      | sliceE o1 o2 k' i' e' => exact absurd rfl hk
  · cases hr
/-! reading the heap -/
theorem AH.map_some {r : Nat} {es : List MapEntry} {c : Nat} (e : h.map r = some (es, c)) : Tr.get h.blocks (path r) = some (.map es c) := by
  unfold AH.map at e
  cases hg : Tr.get h.blocks (path r) with
  | none => rw [hg] at e; cases e
  | some ob => cases ob <;> rw [hg] at e <;> simp at e; obtain ⟨rfl, rfl⟩ := e; rfl
theorem HR.map (hh : HR P ρ B h w) {r c x : Nat} {es : List MapEntry} {ck : Nat} (hr : ρ r = some (c, x)) (hm : h.map r = some (es, ck)) : ∃ es', w.heap[c]? = some (.map es' ck) ∧ ERs ρ es'.toList es := by
  obtain ⟨c', x', e, es', h1, h2⟩ := hh.obj r _ (AH.map_some hm) trivial
  rw [hr] at e; injection e with e; cases e
  exact ⟨es', h1, h2⟩
theorem snd_len {c : Call} {x : Operand} {ty : TypeId} {d : TypeDesc} (ho : o.op = .call c) (hc : c.callee = .builtin .len) (ha : c.args.toList = [x]) (hty : c.argTypes.toList = [ty]) (hu : P.underlying ty = some d)
    (hd : d = .string ∨ (∃ e, d = .slice e) ∨ ∃ k e, d = .map k e) (hok : Oks o) (hh : HR P ρ B h w) (ht : TR ρ nt a.tmps t)
    (hr : opLen d (srcOf x) t h = .ok v h') : h' = h ∧ Goal P ρ B h w a o v h := by
  have hx := opd ht (okArg ho hok (x := x) (by simp [ha]))
  have ea := arr1 ha
  have et := arr1 hty
  unfold opLen at hr
  generalize (srcOf x).ev t = xv at hx hr
  generalize hxx : a.eval x = xx at hx
  have fin : ∀ (n : Nat), (Builtin.len_ #[ty] o.type #[xx]).run P w = .ok (goInt n) w → Goal P ρ B h w a o (.int .i64 (.ofNat n)) h := fun n e => by
    refine OkRes.still hh (u := goInt n) (yb ho hc fun cs => ?_) (.int _ _)
    rw [ea, et]; simp only [builtin]; exact bval (by simpa [hxx] using e)
  split at hr
  · rename_i e p l k
    simp only [R.ok.injEq] at hr; obtain ⟨rfl, rfl⟩ := hr
    refine ⟨rfl, fin _ ?_⟩
    cases hx <;> simp [Builtin.len_, run_underlying hu]
  · rename_i s
    simp only [R.ok.injEq] at hr; obtain ⟨rfl, rfl⟩ := hr
    refine ⟨rfl, fin _ ?_⟩
    cases hx; simp [Builtin.len_, run_underlying hu]
  · simp only [R.ok.injEq] at hr; obtain ⟨rfl, rfl⟩ := hr
    refine ⟨rfl, fin 0 ?_⟩
    cases hx; simp [Builtin.len_, run_underlying hu]
  · rename_i k e r
    split at hr
    · rename_i es ck hm
      simp only [R.ok.injEq] at hr; obtain ⟨rfl, rfl⟩ := hr
      refine ⟨rfl, fin _ ?_⟩
      cases hx with
      | map e' =>
        obtain ⟨es', h1, h2⟩ := hh.map e' hm
        simp [Builtin.len_, run_underlying hu, getObj, Sem.run, h1]
        have := h2.1; simp at this; rw [this]
    · cases hr
  · cases hr
theorem snd_ptrConv {src dst : TypeId} {x : Operand} (ho : o.op = .convert src dst x) (hok : Oks o) (hh : HR P ρ B h w) (ht : TR ρ nt a.tmps t)
    (hr : opPtrConv P src dst (srcOf x) t h = .ok v h') : h' = h ∧ Goal P ρ B h w a o v h := by
  have hx := opd ht (hok x (by simp [ho, Op.operands]))
  unfold opPtrConv at hr
  generalize (srcOf x).ev t = xv at hx hr
  generalize hxx : a.eval x = xx at hx
  have shp : ∀ {b c x o' : Nat} {K : Blk}, ρ b = some (c, x) → h.blk b = some K → K.exact = true → w.shape? c = some (K.elem, K.size) := fun hρ hk he => by
    obtain ⟨cs, fr, e1, e2⟩ := hh.row hρ hk
    unfold World.shape?
    rw [e1]; simp [e2.exact he]
  split at hr
  · rename_i e ad hs hd
    split at hr
    · rename_i K hk
      cases hc : (K.exact && (Nat.blt ad.off K.size && !(Nat.beq (P.cellsOf e) 0))) with
      | false => rw [hc] at hr; cases hr
      | true =>
        rw [hc] at hr
        simp only [cond_true, R.ok.injEq] at hr; obtain ⟨rfl, rfl⟩ := hr
        simp only [Bool.and_eq_true, Bool.not_eq_true'] at hc
        obtain ⟨c1, c2, c3⟩ := hc
        refine ⟨rfl, ?_⟩
        cases hx with
        | ptr o' s e' =>
          refine OkRes.still hh (yl (s := convert src dst (a.eval x)) (by simp only [execOp, ho]) ?_) (.ptr o' s e')
          rw [hxx]
          cases hi : P.info? e with
          | none => simp [Program.cellsOf, hi] at c3
          | some j =>
            refine Go.Lib.run_to_unsafe w _ hs hd hi (fun ej => ?_) (shp (o' := 0) e' hk c1) ((blt_iff _ _).1 c2)
            simp [Program.cellsOf, hi, ej] at c3
    · cases hr
  · rename_i u ad hs hd
    split at hr
    · rename_i K hk
      cases hc : (K.exact && (Nat.blt ad.off K.size && ((P.info? u).isSome && liesAt P P.depth K.elem (K.size / P.cellsOf K.elem) ad.off u 1))) with
      | false => rw [hc] at hr; cases hr
      | true =>
        rw [hc] at hr
        simp only [cond_true, R.ok.injEq] at hr; obtain ⟨rfl, rfl⟩ := hr
        simp only [Bool.and_eq_true] at hc
        obtain ⟨c1, c2, c3, c4⟩ := hc
        refine ⟨rfl, ?_⟩
        cases hx with
        | ptr o' s e' =>
          refine OkRes.still hh (yl (s := convert src dst (a.eval x)) (by simp only [execOp, ho]) ?_) (.ptr o' s e')
          rw [hxx]
          cases hi : P.info? u with
          | none => rw [hi] at c3; cases c3
          | some j => exact Go.Lib.run_from_unsafe w _ hs hd hi (shp (o' := 0) e' hk c1) c4
    · cases hr
  · cases hr
end Go.Ev
namespace Go.Ev
variable [Opq]
variable {ox oy : Operand} {P : Program} {E : List (Nat × Ext)} {ρ : Map} {B nt : Nat} {h h' : AH} {w : World} {a : Act} {t : Tr Value} {o : Oper} {v : Value}
theorem Map.set_self (ρ : Map) (n : Nat) (p : Nat × Nat) : (ρ.set n p) n = some p := by simp [Map.set]
/-- a new row of cells -/
theorem HR.newCells (hh : HR P ρ B h w) (hf : ρ h.next = none) {cs : Tr Value} {d : Value} {size : Nat} {elem : TypeId} {exact mark : Bool} {arr : Array Value} {x : Nat}
    (h1 : size + x * P.cellsOf elem ≤ arr.size) (h2 : exact = true → arr.size = size)
    (h3 : ∀ i v, (Blk.mk cs d size elem exact h.next 0 mark).cell i = some v → ∃ u, arr[i]? = some u ∧ VR ρ u v) :
    HR P (ρ.set h.next (w.heap.size, x)) B (h.new cs d size elem exact mark) (w.alloc (.cells arr elem)) ∧ Step ρ h w (ρ.set h.next (w.heap.size, x)) (h.new cs d size elem exact mark) (w.alloc (.cells arr elem)) := by
  have hle : Map.le ρ (ρ.set h.next (w.heap.size, x)) := Map.le_set hf
  refine hh.add hf (.cells ⟨cs, d, size, elem, exact, h.next, 0, mark⟩) (.cells arr elem) x (Tr.set (path h.next) (size, [h.next]) h.fams) ⟨arr, (0, 0), rfl, h1, h2, fun j _ hj => absurd hj (Nat.not_lt_zero _), Nat.le_refl _, fun i v hi => ?_⟩ (fun f hf => ?_) (fun K e => ?_)
  · obtain ⟨u, e1, e2⟩ := h3 i v hi; exact ⟨u, e1, e2.mono hle⟩
  · rw [Tr.get_set, if_neg hf]
  · injection e with e; subst e; exact ⟨rfl, by rw [Tr.get_set, if_pos rfl]⟩
/-- cells out of a list -/
theorem cell_list {l : List Value} {d : Value} {size : Nat} {elem : TypeId} {exact mark : Bool} {fam froz : Nat} (hs : size ≤ l.length) {i : Nat} {v : Value}
    (hi : (Blk.mk (Tr.putAll l 0 .nil) d size elem exact fam froz mark).cell i = some v) : i < size ∧ l[i]? = some v := by
  rw [Blk.cell_eq] at hi
  split at hi
  · rename_i hlt
    simp only [] at hlt
    simp only [Option.some.injEq] at hi
    rw [Tr.get_putAll, if_pos (by omega)] at hi
    simp only [Nat.sub_zero] at hi
    have hl : i < l.length := by omega
    rw [List.getElem?_eq_getElem hl] at hi ⊢
    exact ⟨hlt, by rw [← hi]⟩
  · cases hi
/-- a new row that is just a list's -/
theorem HR.newList (hh : HR P ρ B h w) (hf : ρ h.next = none) {l us : List Value} {d : Value} {elem : TypeId} {mark : Bool} (hv : VRs ρ us l) :
    HR P (ρ.set h.next (w.heap.size, 0)) B (h.new (Tr.putAll l 0 .nil) d l.length elem true mark) (w.alloc (.cells ⟨us⟩ elem)) ∧
    Step ρ h w (ρ.set h.next (w.heap.size, 0)) (h.new (Tr.putAll l 0 .nil) d l.length elem true mark) (w.alloc (.cells ⟨us⟩ elem)) := by
  refine hh.newCells hf (x := 0) ?_ (fun _ => ?_) (fun i v hi => ?_)
  · show l.length + 0 * _ ≤ us.length
    rw [hv.1]; omega
  · show us.length = l.length
    exact hv.1
  · obtain ⟨_, e⟩ := cell_list (Nat.le_refl _) hi
    obtain ⟨u, e1, e2⟩ := hv.get e
    exact ⟨u, by simpa using e1, e2⟩
theorem new_next {cs : Tr Value} {d : Value} {size : Nat} {elem : TypeId} {exact mark : Bool} : (h.new cs d size elem exact mark).next = h.next + 1 := rfl
theorem fresh1 (hf : Fresh ρ h.next (h.next + 1)) : ρ h.next = none := hf _ (Nat.le_refl _) (Nat.lt_succ_self _)
theorem snd_box {elem : TypeId} {x : Operand} (ho : o.op = .box elem x) (hok : Oks o) (hh : HR P ρ B h w) (ht : TR ρ nt a.tmps t) (hr : opBox elem (srcOf x) t h = .ok v h') (hf : Fresh ρ h.next h'.next) : Goal P ρ B h w a o v h' := by
  have hx := opd ht (hok x (by simp [ho, Op.operands]))
  simp only [opBox, R.ok.injEq] at hr
  obtain ⟨rfl, rfl⟩ := hr
  have hc := hx.cells
  obtain ⟨e1, e2⟩ := hh.newList (fresh1 hf) (d := undefV) (elem := elem) (mark := false) hc
  refine ⟨.pointer (some ⟨w.heap.size, 0, none⟩), _, _, yl (s := Instr.box elem (a.eval x)) (by simp only [execOp, ho]) ?_, .ptr 0 none (Map.set_self _ _ _), e1, e2⟩
  simp [Instr.box, newVar, newRow]
theorem snd_alloc {elem : TypeId} {i : TypeInfo} {z : Value} (ho : o.op = .alloc elem) (hi : P.info? elem = some i) (hz : i.zero = some z) (hp : plainV 6 z = true) (hh : HR P ρ B h w) (hr : opBox elem (.c z) t h = .ok v h') (hf : Fresh ρ h.next h'.next) : Goal P ρ B h w a o v h' := by
  have hx := VR.plain (ρ := ρ) 6 z hp
  simp only [opBox, R.ok.injEq] at hr
  obtain ⟨rfl, rfl⟩ := hr
  have hc := hx.cells
  obtain ⟨e1, e2⟩ := hh.newList (fresh1 hf) (d := undefV) (elem := elem) (mark := false) hc
  refine ⟨.pointer (some ⟨w.heap.size, 0, none⟩), _, _, yl (s := Instr.alloc elem true (.tuple #[])) (by simp only [execOp, ho]) ?_, .ptr 0 none (Map.set_self _ _ _), e1, e2⟩
  simp [Instr.alloc, zeroValue, typeInfo, hi, hz, newVar, newRow]
theorem snd_store {ty : TypeId} {x y : Operand} {n : Nat} (ho : o.op = .store ty x y) (hn : sizeT P ty = some n) (hok : Oks o) (hh : HR P ρ B h w) (ht : TR ρ nt a.tmps t) (hr : opStore n (srcOf x) (srcOf y) t h = .ok v h') : Goal P ρ B h w a o v h' := by
  have hx := opd ht (hok x (by simp [ho, Op.operands]))
  have hy := (opd ht (hok y (by simp [ho, Op.operands]))).cells
  unfold opStore at hr
  generalize (srcOf x).ev t = xv at hx hr
  generalize hxx : a.eval x = xx at hx
  split at hr
  · rename_i ad
    simp only [] at hr
    cases hc : Nat.beq (valCells ((srcOf y).ev t)).length n with
    | false => rw [hc] at hr; cases hr
    | true =>
      rw [hc] at hr
      simp only [cond_true] at hr
      have hlen := Nat.eq_of_beq_eq_true hc
      split at hr
      · rename_i h2 hs
        simp only [R.ok.injEq] at hr; obtain ⟨rfl, rfl⟩ := hr
        cases hx with
        | ptr o' s e =>
          obtain ⟨w', f1, f2, f3⟩ := hh.storeAll e hs hy
          refine ⟨undef, w', ρ, yu (s := Instr.storeAt ty (a.eval x) (a.eval y)) (by simp only [execOp, ho]) ?_, VR.undef ρ, f2, f3⟩
          rw [hxx]
          have hsz : (a.eval y).cells.size = n := by have := hy.1; simp at this; omega
          simp [Instr.storeAt, Instr.sureAddr, storeVar, run_sizeT hn, hsz, f1]
      · cases hr
  · cases hr
theorem bytes_VRs (l : List UInt8) : VRs ρ (byteVals l) (byteVals l) :=
  ⟨rfl, fun i u v hu hv => by
    rw [hu] at hv; injection hv with hv; subst hv
    simp only [byteVals, List.getElem?_map] at hu
    cases hl : l[i]? with
    | none => rw [hl] at hu; cases hu
    | some c => rw [hl] at hu; simp at hu; subst hu; exact .int _ _⟩
theorem snd_makeMap {ty : TypeId} (ho : o.op = .makeMap ty none) (hh : HR P ρ B h w) (hr : opMakeMap t h = .ok v h') (hf : Fresh ρ h.next h'.next) : Goal P ρ B h w a o v h' := by
  simp only [opMakeMap, R.ok.injEq] at hr
  obtain ⟨rfl, rfl⟩ := hr
  obtain ⟨e1, e2⟩ := hh.add (fresh1 hf) (.map [] 0) (.map #[] 0) 0 h.fams ⟨#[], rfl, rfl, fun i u v h => by simp at h⟩ (fun f _ => rfl) (fun K e => by cases e)
  refine ⟨.map (some w.heap.size), _, _, yl (s := Instr.makeMap ty none) (by simp only [execOp, ho]; rfl) ?_, .map (Map.set_self _ _ _), e1, e2⟩
  simp [Instr.makeMap]
/-- the zeros of a row -/
theorem zeros_get {z : Array Value} {n : Nat} (hz : 0 < z.size) {i : Nat} (hi : i < n) : ((Array.range n).map (fun j => z[j % z.size]!))[i]? = some (z[i % z.size]'(Nat.mod_lt _ hz)) := by
  simp [hi, Nat.mod_lt _ hz]
theorem repL_zero (z : List Value) : repL 0 z = [] := rfl
theorem repL_succ (n : Nat) (z : List Value) : repL (n + 1) z = z ++ repL n z := rfl
theorem repL_len (z : List Value) : ∀ n, (repL n z).length = n * z.length
  | 0 => by rw [repL_zero]; simp
  | n + 1 => by rw [repL_succ, List.length_append, repL_len z n, Nat.succ_mul]; omega
theorem repL_get (z : List Value) (hz : 0 < z.length) : ∀ n i, i < n * z.length → (repL n z)[i]? = some (z[i % z.length]'(Nat.mod_lt _ hz))
  | 0, i, h => by simp at h
  | n + 1, i, h => by
    rw [repL_succ, List.getElem?_append]
    by_cases hi : i < z.length
    · rw [if_pos hi]; simp [Nat.mod_eq_of_lt hi, hi]
    · rw [if_neg hi, repL_get z hz n (i - z.length) (by rw [Nat.succ_mul] at h; omega)]
      have : (i - z.length) % z.length = i % z.length := by rw [← Nat.mod_eq_sub_mod (by omega)]
      simp [this]
theorem zeros_list {z : Value} {n : Nat} (hp : plainV 6 z = true) : VRs ρ ((Array.range (n * z.cells.size)).map (fun j => z.cells[j % z.cells.size]!)).toList (repL n (valCells z)) := by
  have hc := (VR.plain (ρ := ρ) 6 z hp).cells
  have hlen : z.cells.size = (valCells z).length := by have := hc.1; simpa using this
  refine ⟨by simp [repL_len, hlen], fun i u v hu hv => ?_⟩
  have hi : i < n * z.cells.size := by have := (List.getElem?_eq_some_iff.1 hu).1; simpa using this
  by_cases hz : 0 < z.cells.size
  · rw [Array.getElem?_toList, zeros_get hz hi] at hu
    rw [repL_get _ (by omega) _ _ (by rw [← hlen]; exact hi)] at hv
    simp only [Option.some.injEq] at hu hv
    subst hu; subst hv
    have hm := Nat.mod_lt i hz
    refine hc.2 (i % z.cells.size) _ _ (by simp [hm]) ?_
    rw [List.getElem?_eq_getElem (by omega)]
    simp [hlen]
  · have : z.cells.size = 0 := by omega
    rw [this] at hi; simp at hi
theorem run_makeSlice {ty e : TypeId} {i : TypeInfo} {z : Value} {l c : Nat} {j k : IntKind} (hu : P.underlying ty = some (.slice e)) (hi : P.info? e = some i) (hz : i.zero = some z) (h1 : l ≤ c) (h2 : c * i.bytes ≤ 1099511627776) (h3 : c ≤ 1099511627776) (h4 : z.cells.size = i.size) :
    (Instr.makeSlice ty (.int j (Int.ofNat l)) (.int k (Int.ofNat c))).run P w = .ok (.slice (some ⟨w.heap.size, 0, none⟩) l c) (w.alloc (.cells ((Array.range (c * z.cells.size)).map (fun j => z.cells[j % z.cells.size]!)) e)) := by
  have wl : IntKind.i64.wrap (l : Int) = l := wrap_lt (k := .i64) (Nat.lt_of_le_of_lt (Nat.le_trans h1 h3) (by decide))
  have wc : IntKind.i64.wrap (c : Int) = c := wrap_lt (k := .i64) (Nat.lt_of_le_of_lt h3 (by decide))
  have nl0 : ¬ ((l : Int) < 0) := by omega
  have nc0 : ¬ ((c : Int) < 0) := by omega
  have nb : ¬ ((281474976710656 : Int) < (i.bytes : Int) * (c : Int)) := by
    have hb : ((c * i.bytes : Nat) : Int) ≤ 1099511627776 := Int.ofNat_le.2 h2
    rw [Int.natCast_mul, Int.mul_comm] at hb
    omega
  have nl : ¬ ((c : Int) < (l : Int)) := by omega
  simp only [Instr.makeSlice]
  simp [run_underlying hu, asInt, asIntOf, typeInfo, hi, wl, wc, nb, nl, nl0, nc0, sizeOf]
  by_cases hzero : c = 0 ∨ i.size = 0
  · have e0 : ∀ f : Nat → Value, (Array.range 0).map f = #[] := fun f => by apply Array.ext'; simp
    rcases hzero with rfl | hs
    · simp [newRow, e0]
    · have hzs : z.cells.size = 0 := by omega
      simp [hs, newRow, hzs]
  · have hcz : ¬ (c = 0 ∨ i.size = 0) := hzero
    have hm : ¬ (c * i.size = 0) := fun e => hcz (by rcases Nat.mul_eq_zero.1 e with e | e; exact .inl e; exact .inr e)
    simp [hcz, hm, zeroValue, typeInfo, hi, hz, newRow, h4]
theorem snd_makeSlice {ty e : TypeId} {i : TypeInfo} {z : Value} {l c : Operand} (ho : o.op = .makeSlice ty l c) (hu : P.underlying ty = some (.slice e)) (hi : P.info? e = some i) (hz : i.zero = some z) (hp : plainV 6 z = true) (hzs : (valCells z).length = i.size)
    (hok : Oks o) (hh : HR P ρ B h w) (ht : TR ρ nt a.tmps t) (hr : opMakeSlice e i.size i.bytes (valCells z) (srcOf l) (srcOf c) t h = .ok v h') (hf : Fresh ρ h.next h'.next) : Goal P ρ B h w a o v h' := by
  have hl := opd ht (hok l (by simp [ho, Op.operands]))
  have hc := opd ht (hok c (by simp [ho, Op.operands]))
  unfold opMakeSlice at hr
  generalize (srcOf l).ev t = lv at hl hr
  generalize hll : a.eval l = ll at hl
  generalize (srcOf c).ev t = cv at hc hr
  generalize hcc : a.eval c = cc at hc
  have hzc := (VR.plain (ρ := ρ) 6 z hp).cells
  have hsz : z.cells.size = i.size := by have := hzc.1; simp at this; omega
  split at hr
  · rename_i j l' k c'
    cases hl; cases hc
    cases hcnd : (Nat.ble l' c' && Nat.ble (c' * i.bytes) 1099511627776 && Nat.ble c' 1099511627776) with
    | false => rw [hcnd] at hr; cases hr
    | true =>
      rw [hcnd] at hr
      simp only [cond_true] at hr
      rw [Bool.and_eq_true, Bool.and_eq_true] at hcnd
      have c1 := Nat.le_of_ble_eq_true hcnd.1.1
      have c2 := Nat.le_of_ble_eq_true hcnd.1.2
      have c3 := Nat.le_of_ble_eq_true hcnd.2
      have hrun := run_makeSlice (w := w) (j := j) (k := k) hu hi hz c1 c2 c3 hsz
      have hzl := zeros_list (ρ := ρ) (z := z) (n := c') hp
      have fin : ∀ {cs : Tr Value} {d : Value}, (∀ q u, (Blk.mk cs d (c' * i.size) e true h.next 0 false).cell q = some u → (repL c' (valCells z))[q]? = some u) → v = .slice (some ⟨h.next, 0, none⟩) l' c' → h' = h.new cs d (c' * i.size) e true false → Goal P ρ B h w a o v h' := by
        intro cs d hcell ev eh
        subst ev; subst eh
        obtain ⟨e1, e2⟩ := hh.newCells (fresh1 hf) (x := 0) (cs := cs) (d := d) (size := c' * i.size) (elem := e) (exact := true) (mark := false) (arr := (Array.range (c' * z.cells.size)).map (fun j => z.cells[j % z.cells.size]!))
          (by simp [hsz]) (fun _ => by simp [hsz]) (fun q u hq => by
            obtain ⟨u', f1, f2⟩ := hzl.get (hcell q u hq)
            exact ⟨u', by rw [Array.getElem?_toList] at f1; exact f1, f2⟩)
        exact ⟨_, _, _, yl (s := Instr.makeSlice ty (a.eval l) (a.eval c)) (by simp only [execOp, ho]) (by rw [hll, hcc]; exact hrun), .slice 0 l' c' (Map.set_self _ _ _), e1, e2⟩
      split at hr
      · rename_i z0 hz0
        simp only [R.ok.injEq] at hr
        have hs1 : i.size = 1 := by rw [← hzs, hz0]; rfl
        have hmul : c' * i.size = c' := by rw [hs1]; omega
        refine fin (cs := .nil) (d := z0) (fun q u hq => ?_) hr.1.symm (by rw [hmul]; exact hr.2.symm)
        rw [Blk.cell_eq] at hq
        split at hq
        · rename_i hlt
          simp only [Tr.get_nil, Option.some.injEq] at hq
          simp only [] at hlt
          rw [hz0, repL_get [z0] (by simp) c' q (by simp; omega)]
          simp [hq, Nat.mod_one]
        · cases hq
      · simp only [R.ok.injEq] at hr
        refine fin (fun q u hq => ?_) hr.1.symm hr.2.symm
        exact (cell_list (by rw [repL_len, hzs]; exact Nat.le_refl _) hq).2
  · cases hr
end Go.Ev
namespace Go.Ev
variable [Opq]
variable {ox oy : Operand} {P : Program} {E : List (Nat × Ext)} {ρ : Map} {B nt : Nat} {h h' : AH} {w : World} {a : Act} {t : Tr Value} {o : Oper} {v : Value}
/-! making structs and rows -/
theorem fold_splL (off : Nat) : ∀ (l : List Value) (k : Nat) (cells : Array Value), (l.zipIdx k).foldl (fun cs (x : Value × Nat) => cs.setIfInBounds (off + x.2) x.1) cells = splA cells (off + k) l
  | [], k, cells => rfl
  | u :: l, k, cells => by rw [List.zipIdx_cons, List.foldl_cons, fold_splL off l, splA]; rfl
theorem fold_spl (off : Nat) (vs cells : Array Value) : vs.zipIdx.foldl (fun cs (x : Value × Nat) => cs.setIfInBounds (off + x.2) x.1) cells = splA cells off vs.toList := by
  rw [← Array.foldl_toList, Array.toList_zipIdx, fold_splL]; rfl
theorem splA_list (cells : Array Value) (off : Nat) (us : List Value) (h : off + us.length ≤ cells.size) : (splA cells off us).toList = cells.toList.take off ++ (us ++ cells.toList.drop (off + us.length)) := by
  apply List.ext_getElem?
  intro j
  rw [Array.getElem?_toList, splA_get _ _ _ _ h, List.getElem?_append, List.getElem?_append, List.getElem?_take, List.getElem?_drop]
  simp only [List.length_take, Array.length_toList]
  have hmin : min off cells.size = off := by omega
  rw [hmin]
  by_cases h1 : j < off
  · rw [if_neg (by omega), if_pos h1, if_pos h1, Array.getElem?_toList]
  · rw [if_neg h1]
    by_cases h2 : j < off + us.length
    · rw [if_pos (by omega), if_pos (by omega)]
    · rw [if_neg (by omega), if_neg (by omega), show off + us.length + (j - off - us.length) = j by omega, Array.getElem?_toList]
theorem fillL_nil (l : List Value) : fillL [] t l = some l := rfl
theorem fillL_cons (p : Nat × Nat × Src) (ps : List (Nat × Nat × Src)) (l : List Value) : fillL (p :: ps) t l =
    bif Nat.beq (valCells (p.2.2.ev t)).length p.2.1 && Nat.ble (p.1 + p.2.1) l.length then fillL ps t (l.take p.1 ++ (valCells (p.2.2.ev t) ++ l.drop (p.1 + p.2.1))) else none := rfl
/-- parts, and the evaluator's -/
inductive Parts (place : Nat → Option (Nat × Nat)) : List (Nat × Operand) → List (Nat × Nat × Src) → Prop where
  | nil : Parts place [] []
  | cons {i off n : Nat} {x : Operand} {ps : List (Nat × Operand)} {qs : List (Nat × Nat × Src)} : place i = some (off, n) → Parts place ps qs → Parts place ((i, x) :: ps) ((off, n, srcOf x) :: qs)
theorem fill_ok (ht : TR ρ nt a.tmps t) {place : Nat → Option (Nat × Nat)} {ps : List (Nat × Operand)} {qs : List (Nat × Nat × Src)} (hp : Parts place ps qs) (hok : ∀ x ∈ ps.map (·.2), okOpd x = true) :
    ∀ {cells : Array Value} {l r : List Value}, VRs ρ cells.toList l → fillL qs t l = some r → ∃ cs, Instr.fill place cells (ps.map fun (i, x) => (i, a.eval x)) = some cs ∧ VRs ρ cs.toList r := by
  induction hp with
  | nil => intro cells l r hv hr; rw [fillL_nil] at hr; injection hr with hr; subst hr; exact ⟨cells, rfl, hv⟩
  | cons hpl hrest ih =>
    rename_i i off n x ps qs
    intro cells l r hv hr
    rw [fillL_cons] at hr
    simp only [] at hr
    have hx := (opd ht (hok x (by simp))).cells
    cases hc : (Nat.beq (valCells ((srcOf x).ev t)).length n && Nat.ble (off + n) l.length) with
    | false => rw [hc] at hr; cases hr
    | true =>
      rw [hc] at hr
      simp only [cond_true] at hr
      rw [Bool.and_eq_true] at hc
      have c1 := Nat.eq_of_beq_eq_true hc.1
      have c2 := Nat.le_of_ble_eq_true hc.2
      have s1 : (a.eval x).cells.size = n := by have := hx.1; simp at this; omega
      have s2 : off + n ≤ cells.size := by have := hv.1; simp at this; omega
      have hnew : VRs ρ (splA cells off (a.eval x).cells.toList).toList (l.take off ++ (valCells ((srcOf x).ev t) ++ l.drop (off + n))) := by
        rw [splA_list _ _ _ (by simp; omega)]
        refine VRs.append (hv.take _) (VRs.append hx ?_)
        have : off + (a.eval x).cells.toList.length = off + n := by simp [s1]
        rw [this]; exact hv.drop _
      obtain ⟨cs, e1, e2⟩ := ih (fun y hy => hok y (by simp at hy ⊢; exact .inr hy)) hnew hr
      refine ⟨cs, ?_, e2⟩
      rw [List.map_cons, Instr.fill, hpl]
      simp only []
      rw [if_neg (by simp [s1]; omega), fold_spl]
      exact e1
theorem run_mapM {α β : Type} {g : α → Sem β} {k : α → β} {arr : Array α} (h : ∀ x ∈ arr.toList, (g x).run P w = .ok (k x) w) : (arr.mapM g).run P w = .ok (arr.map k) w := by
  have key : ∀ l : List α, (∀ x ∈ l, (g x).run P w = .ok (k x) w) → (l.mapM g).run P w = .ok (l.map k) w := by
    intro l
    induction l with
    | nil => intro _; rfl
    | cons x l ih =>
      intro hl
      rw [List.mapM_cons]
      simp [hl x (by simp), ih fun y hy => hl y (by simp [hy])]
  rw [Array.mapM_eq_mapM_toList]
  simp [key _ h]
  apply Array.ext'
  simp
theorem structParts_nil (fs : List Field) : structParts P fs [] = some [] := rfl
theorem structParts_cons (fs : List Field) (p : Nat × Operand) (ps : List (Nat × Operand)) : structParts P fs (p :: ps) = match fs.drop p.1 with
    | f :: _ => match sizeT P f.type, structParts P fs ps with | some n, some r => some ((f.offset, n, srcOf p.2) :: r) | _, _ => none
    | [] => none := rfl
theorem structParts_ok {fs : Array Field} {place : Nat → Option (Nat × Nat)} (hplace : ∀ i f n, fs[i]? = some f → sizeT P f.type = some n → place i = some (f.offset, n)) :
    ∀ (ps : List (Nat × Operand)) (qs : List (Nat × Nat × Src)), structParts P fs.toList ps = some qs → Parts place ps qs
  | [], qs, h => by rw [structParts_nil] at h; injection h with h; subst h; exact .nil
  | (i, x) :: ps, qs, h => by
    rw [structParts_cons] at h
    simp only [] at h
    split at h
    · rename_i f r hd
      split at h
      · rename_i n r' hn hr'
        injection h with h; subst h
        exact .cons (hplace i f n (field_at hd) hn) (structParts_ok hplace ps r' hr')
      · cases h
    · cases h
theorem arrayParts_nil (n : Nat) : arrayParts n [] = [] := rfl
theorem arrayParts_cons (n : Nat) (p : Nat × Operand) (ps : List (Nat × Operand)) : arrayParts n (p :: ps) = (p.1 * n, n, srcOf p.2) :: arrayParts n ps := rfl
theorem arrayParts_ok (n : Nat) : ∀ (ps : List (Nat × Operand)), Parts (fun i => some (i * n, n)) ps (arrayParts n ps)
  | [] => .nil
  | (i, x) :: ps => by rw [arrayParts_cons]; exact .cons rfl (arrayParts_ok n ps)
theorem zeroT_some {ty : TypeId} {z : List Value} (h : zeroT P ty = some z) : ∃ i v, P.info? ty = some i ∧ i.zero = some v ∧ plainV 6 v = true ∧ z = valCells v := by
  unfold zeroT at h
  split at h
  · rename_i i hi
    split at h
    · rename_i v hv
      cases hp : plainV 6 v with
      | false => rw [hp] at h; cases h
      | true => rw [hp] at h; simp only [cond_true, Option.some.injEq] at h; exact ⟨i, v, hi, hv, hp, h.symm⟩
    · cases h
  · cases h
theorem map_pairs (ps : Array (Nat × Operand)) : (ps.map fun (i, x) => (i, a.eval x)).toList = ps.toList.map fun (i, x) => (i, a.eval x) := by simp
theorem snd_build {ty : TypeId} {ps : Array (Nat × Operand)} (ho : o.op = .build ty ps) (hok : Oks o) (hh : HR P ρ B h w) (ht : TR ρ nt a.tmps t) (hr : COp.run P (compOp P E o) t h = .ok v h') : Goal P ρ B h w a o v h' := by
  have hokp : ∀ x ∈ ps.toList.map (·.2), okOpd x = true := fun x hx => hok x (by simpa [ho, Op.operands] using hx)
  simp only [compOp, ho] at hr
  split at hr
  · rename_i fs z hu hz
    cases hall : fs.toList.all (fun f => (sizeT P f.type).isSome) with
    | false => rw [hall] at hr; cases hr
    | true =>
      rw [hall] at hr
      simp only [cond_true] at hr
      split at hr
      · rename_i qs hqs
        replace hr : opBuild z qs t h = .ok v h' := hr
        unfold opBuild at hr
        split at hr
        · rename_i l hl
          simp only [R.ok.injEq] at hr; obtain ⟨rfl, rfl⟩ := hr
          obtain ⟨i, zv, hi, hzv, hpz, rfl⟩ := zeroT_some hz
          have hsz : ∀ f ∈ fs.toList, ∃ n, sizeT P f.type = some n := fun f hf => Option.isSome_iff_exists.1 (List.all_eq_true.1 hall f hf)
          let k : Field → Nat × Nat := fun f => (f.offset, (sizeT P f.type).getD 0)
          have hm : (fs.mapM fun f => do pure (f.offset, ← sizeOf f.type) : Sem (Array (Nat × Nat))).run P w = .ok (fs.map k) w :=
            run_mapM fun f hf => by obtain ⟨n, hn⟩ := hsz f hf; simp [run_sizeT hn, k, hn]
          have hparts := structParts_ok (fs := fs) (place := ((fs.map k)[·]?)) (fun i f n hf hn => by simp [hf, k, hn]) ps.toList qs hqs
          obtain ⟨cs, e1, e2⟩ := fill_ok (ρ := ρ) ht hparts hokp ((VR.plain (ρ := ρ) 6 zv hpz).cells) hl
          refine OkRes.still hh (yl (s := Instr.build ty (ps.map fun (i, x) => (i, a.eval x))) (by simp only [execOp, ho]) ?_) (.agg_of e2)
          unfold Instr.build
          simp only [Sem.run_bind]
          have hzr : (zeroValue ty).run P w = .ok zv w := by simp [zeroValue, typeInfo, hi, hzv]
          rw [hzr]
          simp only [Result.andThen, run_underlying hu, Sem.run_bind, hm]
          rw [map_pairs, e1]
          rfl
        · cases hr
      · cases hr
  · rename_i len e z hu hz
    split at hr
    · rename_i n hn
      replace hr : opBuild z (arrayParts n ps.toList) t h = .ok v h' := hr
      unfold opBuild at hr
      split at hr
      · rename_i l hl
        simp only [R.ok.injEq] at hr; obtain ⟨rfl, rfl⟩ := hr
        obtain ⟨i, zv, hi, hzv, hpz, rfl⟩ := zeroT_some hz
        obtain ⟨cs, e1, e2⟩ := fill_ok (ρ := ρ) ht (arrayParts_ok n ps.toList) hokp ((VR.plain (ρ := ρ) 6 zv hpz).cells) hl
        refine OkRes.still hh (yl (s := Instr.build ty (ps.map fun (i, x) => (i, a.eval x))) (by simp only [execOp, ho]) ?_) (.agg_of e2)
        unfold Instr.build
        simp only [Sem.run_bind]
        have hzr : (zeroValue ty).run P w = .ok zv w := by simp [zeroValue, typeInfo, hi, hzv]
        rw [hzr]
        simp only [Result.andThen, run_underlying hu, Sem.run_bind, run_sizeT hn]
        rw [map_pairs, e1]
        rfl
      · cases hr
    · cases hr
  · cases hr
theorem snd_buildSlice {ty : TypeId} {len : Nat} {ps : Array (Nat × Operand)} (ho : o.op = .buildSlice ty len ps) (hok : Oks o) (hh : HR P ρ B h w) (ht : TR ρ nt a.tmps t) (hr : COp.run P (compOp P E o) t h = .ok v h') (hf : Fresh ρ h.next h'.next) : Goal P ρ B h w a o v h' := by
  have hokp : ∀ x ∈ ps.toList.map (·.2), okOpd x = true := fun x hx => hok x (by simpa [ho, Op.operands] using hx)
  simp only [compOp, ho] at hr
  split at hr
  · rename_i e hu
    split at hr
    · rename_i n z hn hz
      cases hc : (Nat.ble (len * n) 16777216 && Nat.beq z.length n) with
      | false => rw [hc] at hr; cases hr
      | true =>
        rw [hc] at hr
        simp only [cond_true] at hr
        rw [Bool.and_eq_true] at hc
        have c1 := Nat.le_of_ble_eq_true hc.1
        have c2 := Nat.eq_of_beq_eq_true hc.2
        replace hr : opBuildSlice e len (repL len z) (arrayParts n ps.toList) t h = .ok v h' := hr
        unfold opBuildSlice at hr
        split at hr
        · rename_i l hl
          simp only [R.ok.injEq] at hr; obtain ⟨rfl, rfl⟩ := hr
          obtain ⟨i, zv, hi, hzv, hpz, rfl⟩ := zeroT_some hz
          have hzs : zv.cells.size = n := by have := (VR.plain (ρ := ρ) 6 zv hpz).cells.1; simp at this; omega
          obtain ⟨cs, e1, e2⟩ := fill_ok (ρ := ρ) ht (arrayParts_ok n ps.toList) hokp (zeros_list (ρ := ρ) (n := len) hpz) hl
          obtain ⟨f1, f2⟩ := hh.newList (fresh1 hf) (d := undefV) (elem := e) (mark := false) e2
          refine ⟨.slice (some ⟨w.heap.size, 0, none⟩) len len, _, _, yl (s := Instr.buildSlice ty len (ps.map fun (i, x) => (i, a.eval x))) (by simp only [execOp, ho]) ?_, .slice 0 len len (Map.set_self _ _ _), f1, f2⟩
          unfold Instr.buildSlice
          simp only [Sem.run_bind, run_underlying hu, Result.andThen, run_sizeT hn]
          rw [if_neg (by omega)]
          rw [hzs] at e1
          by_cases hz0 : len * n = 0
          · rw [if_pos hz0, hz0]
            rw [hz0] at e1
            simp only [Sem.run_bind, Sem.run_pure, Result.andThen]
            have e0 : ∀ f : Nat → Value, (Array.range 0).map f = #[] := fun f => by apply Array.ext'; simp
            rw [e0] at e1
            rw [map_pairs, e0, e1]
            simp [newRow]
          · rw [if_neg hz0]
            have hzr : (zeroValue e).run P w = .ok zv w := by simp [zeroValue, typeInfo, hi, hzv]
            simp only [Sem.run_bind, Sem.run_pure, hzr, Result.andThen]
            rw [map_pairs, hzs, e1]
            simp [newRow]
        · cases hr
    · cases hr
  · cases hr
end Go.Ev
namespace Go.Ev
variable [Opq]
variable {ox oy : Operand} {P : Program} {E : List (Nat × Ext)} {ρ : Map} {B nt : Nat} {h h' : AH} {w : World} {a : Act} {t : Tr Value} {o : Oper} {v : Value}
/-! keys -/
theorem bytes_eq (m n : ByteArray) : eqBytes m.data.toList n.data.toList = (m == n) := by
  rw [eqBytes_eq, beq_toListBytes, toList_data, toList_data]
/-- a key that can be told apart -/
theorem plainKey_now {kt : TypeId} (hk : plainKey P kt = true) : ∃ d, P.underlying kt = some d ∧ ((∃ k, d = .int k) ∨ d = .string) := by
  unfold plainKey at hk
  split at hk
  · rename_i k hu; exact ⟨_, hu, .inl ⟨k, rfl⟩⟩
  · rename_i hu; exact ⟨_, hu, .inr rfl⟩
  · cases hk
theorem sameNow_of {d : TypeDesc} (hd : (∃ k, d = .int k) ∨ d = .string) {x y xc yc : Value} {b : Bool} (h : eqKey d x y = some b) (hx : VR ρ xc x) (hy : VR ρ yc y) : Instr.sameNow d xc yc = some b := by
  unfold eqKey at h
  split at h
  · rename_i q k m k' n
    cases hk : eqK k k' with
    | false => rw [hk] at h; cases h
    | true =>
      rw [hk] at h; simp only [cond_true, Option.some.injEq] at h; subst h
      have := eqK_eq hk; subst this
      cases hx; cases hy
      simp [Instr.sameNow, eqI_eq]
      apply Bool.eq_iff_iff.2; simp
  · rename_i m n
    simp only [Option.some.injEq] at h; subst h
    cases hx; cases hy
    simp [Instr.sameNow, bytes_eq]
  · cases h
theorem findE_aux {d : TypeDesc} (hd : (∃ k, d = .int k) ∨ d = .string) {k kc : Value} (hk : VR ρ kc k) : ∀ (es : List MapEntry) (i : Nat) (r : Option (Nat × Value)),
    (List.rec (motive := fun _ => Nat → Option (Option (Nat × Value))) (fun _ => some none) (fun e _ ih i => match eqKey d k e.key with
      | some true => some (some (i, e.val))
      | some false => ih (Nat.succ i)
      | none => none) es) i = some r → ∀ es' : List MapEntry, ERs ρ es' es →
    ∃ r', Instr.findNow d kc es' i = some r' ∧ ((r = none ∧ r' = none) ∨ ∃ j u u', r = some (j, u) ∧ r' = some (j, u') ∧ VR ρ u' u ∧ i ≤ j ∧ j < i + es.length)
  | [], i, r, h, es', he => by
    simp only [Option.some.injEq] at h; subst h
    have : es' = [] := List.eq_nil_of_length_eq_zero he.1
    subst this
    exact ⟨none, rfl, .inl ⟨rfl, rfl⟩⟩
  | e :: es, i, r, h, es', he => by
    cases es' with
    | nil => have := he.1; cases this
    | cons e' es' =>
      have h0 := he.2 0 e' e rfl rfl
      have hrest : ERs ρ es' es := ⟨by have := he.1; simpa using this, fun j u v hu hv => he.2 (j + 1) u v (by simpa using hu) (by simpa using hv)⟩
      simp only [] at h
      split at h
      · rename_i hq
        simp only [Option.some.injEq] at h; subst h
        refine ⟨some (i, e'.val), ?_, .inr ⟨i, e.val, e'.val, rfl, rfl, h0.2.1, Nat.le_refl _, by simp⟩⟩
        rw [Instr.findNow, sameNow_of hd hq hk h0.1]
      · rename_i hq
        obtain ⟨r', f1, f2⟩ := findE_aux hd hk es (i + 1) r h es' hrest
        refine ⟨r', ?_, ?_⟩
        · rw [Instr.findNow, sameNow_of hd hq hk h0.1]; exact f1
        · rcases f2 with f2 | ⟨j, u, u', g1, g2, g3, g4, g5⟩
          · exact .inl f2
          · exact .inr ⟨j, u, u', g1, g2, g3, by omega, by simp; omega⟩
      · cases h
theorem run_checkKey {b : Bool} {kt : TypeId} {d : TypeDesc} (hu : P.underlying kt = some d) (hd : (∃ k, d = .int k) ∨ d = .string) (x : Value) : (Instr.checkKey b 10000 kt x).run P w = .ok () w := by
  have : ∀ n, (Instr.checkKey b (n + 1) kt x).run P w = .ok () w := fun n => by
    unfold Instr.checkKey
    simp only [Sem.run_bind, run_underlying hu, Result.andThen]
    rcases hd with ⟨k, rfl⟩ | rfl <;> rfl
  exact this 9999
theorem run_findKey {kt : TypeId} {d : TypeDesc} (hu : P.underlying kt = some d) {x : Value} {es : List MapEntry} {r : Option (Nat × Value)} (h : Instr.findNow d x es 0 = some r) : (Instr.findKey kt x es).run P w = .ok r w := by
  unfold Instr.findKey
  simp only [Sem.run_bind, run_underlying hu, Result.andThen, h]
  rfl
theorem run_getObj {c : Nat} {es : Array MapEntry} {ck : Nat} (h1 : w.heap[c]? = some (.map es ck)) : (getObj c).run P w = .ok (.map es ck) w := by simp [getObj, Sem.run, h1]
theorem snd_lookup {ty kt e : TypeId} {x k : Operand} {ok : Bool} {i : TypeInfo} {z : Value} {d : TypeDesc} (ho : o.op = .lookup ty x k ok) (hu : P.underlying ty = some (.map kt e)) (hi : P.info? e = some i) (hz : i.zero = some z) (hp : plainV 6 z = true)
    (hku : P.underlying kt = some d) (hd : (∃ k, d = .int k) ∨ d = .string) (hok : Oks o) (hh : HR P ρ B h w) (ht : TR ρ nt a.tmps t) (hr : opLookup d z (srcOf x) (srcOf k) ok t h = .ok v h') : h' = h ∧ Goal P ρ B h w a o v h := by
  have hx := opd ht (hok x (by simp [ho, Op.operands]))
  have hk := opd ht (hok k (by simp [ho, Op.operands]))
  unfold opLookup at hr
  generalize (srcOf x).ev t = xv at hx hr
  generalize hxx : a.eval x = xx at hx
  generalize (srcOf k).ev t = kv at hk hr
  generalize hkk : a.eval k = kk at hk
  have hzr : (zeroValue e).run P w = .ok z w := by simp [zeroValue, typeInfo, hi, hz]
  have fin : ∀ {u u' : Value} {b : Bool}, (R.ok (bif ok then .tuple ⟨[u, .bool b]⟩ else u) h = R.ok v h') → VR ρ u' u → (Instr.lookup ty xx kk ok).run P w = .ok (if ok then .tuple #[u', .bool b] else u') w → h' = h ∧ Goal P ρ B h w a o v h := fun hr hv hrun => by
    simp only [R.ok.injEq] at hr; obtain ⟨rfl, rfl⟩ := hr
    refine ⟨rfl, OkRes.still hh (yl (s := Instr.lookup ty (a.eval x) (a.eval k) ok) (by simp only [execOp, ho]) (by rw [hxx, hkk]; exact hrun)) ?_⟩
    cases ok with
    | true => exact .tuple_of (VRs.cons hv (VRs.cons (.bool _) (VRs.nil ρ)))
    | false => exact hv
  split at hr
  · cases hx
    refine fin hr (VR.plain 6 z hp) ?_
    have : Instr.findNow d kk [] 0 = some none := rfl
    unfold Instr.lookup
    simp only [Sem.run_bind, run_underlying hu, Result.andThen, Sem.run_pure, run_checkKey hku hd, run_findKey hku this, hzr]
    all_goals first | done | (cases ok <;> rfl)
  · rename_i r
    split at hr
    · rename_i es ck hm
      cases hx with
      | map e' =>
        obtain ⟨es', h1, h2⟩ := hh.map e' hm
        have hg := run_getObj (P := P) h1
        split at hr
        · rename_i j u hfe
          obtain ⟨r', f1, f2⟩ := findE_aux hd hk es 0 _ hfe es'.toList h2
          rcases f2 with ⟨f2, _⟩ | ⟨j', q, q', g1, g2, g3, _⟩
          · cases f2
          · injection g1 with g1; cases g1; subst g2
            refine fin hr g3 ?_
            unfold Instr.lookup
            simp only [Sem.run_bind, run_underlying hu, Result.andThen, hg, Sem.run_pure, run_checkKey hku hd, run_findKey hku f1]
            all_goals (cases ok <;> rfl)
        · rename_i hfe
          obtain ⟨r', f1, f2⟩ := findE_aux hd hk es 0 _ hfe es'.toList h2
          rcases f2 with ⟨_, f2⟩ | ⟨j', q, q', g1, _⟩
          · subst f2
            refine fin hr (VR.plain 6 z hp) ?_
            unfold Instr.lookup
            simp only [Sem.run_bind, run_underlying hu, Result.andThen, hg, Sem.run_pure, run_checkKey hku hd, run_findKey hku f1, hzr]
            all_goals (cases ok <;> rfl)
          · cases g1
        · cases hr
    · cases hr
  · cases hr
theorem setE_nil (v : Value) (i : Nat) : setE [] v i = [] := rfl
theorem setE_zero (e : MapEntry) (es : List MapEntry) (v : Value) : setE (e :: es) v 0 = ⟨e.key, v, e.born⟩ :: es := rfl
theorem setE_succ (e : MapEntry) (es : List MapEntry) (v : Value) (i : Nat) : setE (e :: es) v (i + 1) = e :: setE es v i := rfl
theorem setE_ok {v vc : Value} (hv : VR ρ vc v) {kc : Value} : ∀ (es' es : List MapEntry) (i : Nat) (e' : MapEntry), ERs ρ es' es → es'[i]? = some e' → (∀ e, es[i]? = some e → VR ρ kc e.key) →
    ERs ρ (es'.modify i fun e => { e with key := kc, val := vc }) (setE es v i)
  | [], es, i, e', he, hi, _ => by simp at hi
  | x :: es', [], i, e', he, _, _ => by have := he.1; cases this
  | x :: es', y :: es, i, e', he, hi, hk => by
    have h0 := he.2 0 x y rfl rfl
    have hrest : ERs ρ es' es := ⟨by have := he.1; simpa using this, fun j u v hu hv => he.2 (j + 1) u v (by simpa using hu) (by simpa using hv)⟩
    cases i with
    | zero =>
      rw [setE_zero, List.modify_zero_cons]
      refine ⟨by simp [hrest.1], fun j u q hu hq => ?_⟩
      cases j with
      | zero => simp at hu hq; subst hu; subst hq; exact ⟨hk y rfl, hv, h0.2.2⟩
      | succ j => simp at hu hq; exact hrest.2 j u q hu hq
    | succ i =>
      rw [setE_succ, List.modify_succ_cons]
      have ih := setE_ok hv es' es i e' hrest (by simpa using hi) (fun e he => hk e (by simpa using he))
      refine ⟨by simp [ih.1], fun j u q hu hq => ?_⟩
      cases j with
      | zero => simp at hu hq; subst hu; subst hq; exact h0
      | succ j => simp at hu hq; exact ih.2 j u q hu hq
theorem ERs.push {es' es : List MapEntry} (h : ERs ρ es' es) {e' e : MapEntry} (k : ER ρ e' e) : ERs ρ (es' ++ [e']) (es ++ [e]) := by
  refine ⟨by simp [h.1], fun i u v hu hv => ?_⟩
  rw [List.getElem?_append] at hu hv
  by_cases hi : i < es'.length
  · rw [if_pos hi] at hu; rw [if_pos (by rw [← h.1]; exact hi)] at hv; exact h.2 i u v hu hv
  · rw [if_neg hi] at hu; rw [if_neg (by rw [← h.1]; exact hi), ← h.1] at hv
    cases hj : i - es'.length with
    | zero => rw [hj] at hu hv; simp at hu hv; subst hu; subst hv; exact k
    | succ j => rw [hj] at hu; simp at hu
/-- a map turned -/
theorem HR.setMap (hh : HR P ρ B h w) {r c x : Nat} {es : List MapEntry} {ck : Nat} (hr : ρ r = some (c, x)) (hm : h.map r = some (es, ck)) {es2 : List MapEntry} {ck2 : Nat} {es2' : Array MapEntry} (he : ERs ρ es2'.toList es2) :
    HR P ρ B ⟨Tr.set (path r) (.map es2 ck2) h.blocks, h.next, h.fams⟩ (w.putAt c (.map es2' ck2)) ∧ Step ρ h w ρ ⟨Tr.set (path r) (.map es2 ck2) h.blocks, h.next, h.fams⟩ (w.putAt c (.map es2' ck2)) := by
  have hb := AH.map_some hm
  refine hh.upd hb trivial hr (.map es2 ck2) (.map es2' ck2) _ (by rw [Tr.get_set, if_pos rfl]) ⟨es2', rfl, he⟩ (fun j hj => .inl (by rw [Tr.get_set, if_neg hj])) (fun j oj xj hj hg hl hrj => ?_) (fun K e => by cases e) (fun K e => by cases e)
  rw [Tr.get_set, if_neg hj] at hg
  obtain ⟨K, K', e1, _⟩ := hh.inj r j _ oj c x xj hb hg trivial hl hr hrj (fun e => hj e.symm)
  cases e1
theorem run_setObj {c : Nat} {o1 o2 : Obj} (h1 : w.heap[c]? = some o1) (hn : ∀ cs e fr, o1 ≠ .cells cs e fr) : (setObj c o2).run P w = .ok () (w.putAt c o2) := by
  unfold setObj Sem.run
  rw [h1]
  cases o1 <;> first | rfl | exact absurd rfl (hn _ _ _)
theorem bytes_of_beq {x y : ByteArray} (h : (x == y) = true) : x = y := by
  rw [beq_toListBytes, ByteArray.toList_eq, ByteArray.toList_eq] at h
  have := eq_of_beq h
  apply ByteArray.ext; apply Array.ext'; exact this
theorem sameNow_true {d : TypeDesc} {x y : Value} (h : Instr.sameNow d x y = some true) : y = x ∧ Instr.sameBits 10000 x x = true := by
  have refl : ∀ n, Instr.sameBits (n + 1) x x = true → Instr.sameBits (n + 1) x x = true := fun _ h => h
  unfold Instr.sameNow at h
  split at h
  · split at h
    · rename_i hk
      injection h with h
      subst hk
      have := eq_of_beq h
      subst this
      exact ⟨rfl, by unfold Instr.sameBits; simp⟩
    · cases h
  · injection h with h
    have := bytes_of_beq h
    subst this
    exact ⟨rfl, by unfold Instr.sameBits; exact h⟩
  · injection h with h
    have := eq_of_beq h
    subst this
    exact ⟨rfl, by unfold Instr.sameBits; simp⟩
  · cases h
theorem snd_mapUpdate {ty kt e : TypeId} {m k x : Operand} {d : TypeDesc} (ho : o.op = .mapUpdate ty m k x) (hu : P.underlying ty = some (.map kt e))
    (hku : P.underlying kt = some d) (hd : (∃ k, d = .int k) ∨ d = .string) (hok : Oks o) (hh : HR P ρ B h w) (ht : TR ρ nt a.tmps t) (hr : opMapUpdate d (srcOf m) (srcOf k) (srcOf x) t h = .ok v h') : Goal P ρ B h w a o v h' := by
  have hm := opd ht (hok m (by simp [ho, Op.operands]))
  have hk := opd ht (hok k (by simp [ho, Op.operands]))
  have hx := opd ht (hok x (by simp [ho, Op.operands]))
  unfold opMapUpdate at hr
  generalize (srcOf m).ev t = mv at hm hr
  generalize hmm : a.eval m = mm at hm
  generalize (srcOf k).ev t = kv at hk hr
  generalize hkk : a.eval k = kk at hk
  generalize (srcOf x).ev t = xv at hx hr
  generalize hxx : a.eval x = xx at hx
  split at hr
  · rename_i r
    split at hr
    · rename_i es ck hme
      cases hm with
      | map e' =>
        obtain ⟨es', h1, h2⟩ := hh.map e' hme
        have hg := run_getObj (P := P) h1
        split at hr
        · rename_i j u hfe
          simp only [R.ok.injEq] at hr; obtain ⟨rfl, rfl⟩ := hr
          obtain ⟨r', f1, f2⟩ := findE_aux hd hk es 0 _ hfe es'.toList h2
          rcases f2 with ⟨f2, _⟩ | ⟨j', q, q', g1, g2, g3, _, g5⟩
          · cases f2
          · injection g1 with g1; cases g1; subst g2
            have hj : j < es'.size := by have := h2.1; simp at this g5; omega
            -- the key that stays
            have hkeq : Instr.sameNow d kk es'[j].key = some true ∧ ∃ e, es[j]? = some e ∧ eqKey d kv e.key = some true := by
              have key : ∀ (l : List MapEntry) (i : Nat) (r : Nat × Value), (List.rec (motive := fun _ => Nat → Option (Option (Nat × Value))) (fun _ => some none) (fun e _ ih i => match eqKey d kv e.key with
                  | some true => some (some (i, e.val))
                  | some false => ih (Nat.succ i)
                  | none => none) l) i = some (some r) → i ≤ r.1 ∧ ∃ e, l[r.1 - i]? = some e ∧ eqKey d kv e.key = some true := by
                intro l
                induction l with
                | nil => intro i r h; cases h
                | cons y l ih =>
                  intro i r h
                  simp only [] at h
                  split at h
                  · rename_i hq
                    injection h with h; injection h with h; subst h
                    exact ⟨Nat.le_refl _, y, by simp, hq⟩
                  · obtain ⟨g1, e, g2, g3⟩ := ih (i + 1) r h
                    exact ⟨by omega, e, by rw [show r.1 - i = (r.1 - (i + 1)) + 1 by omega]; simpa using g2, g3⟩
                  · cases h
              obtain ⟨_, e, g2, g3⟩ := key es 0 (j, u) hfe
              simp only [Nat.sub_zero] at g2
              have her := h2.2 j es'[j] e (by simp [hj]) g2
              exact ⟨sameNow_of hd g3 hk her.1, e, g2, g3⟩
            obtain ⟨hk1, e0, hk2, hk3⟩ := hkeq
            obtain ⟨hsame, hbits⟩ := sameNow_true hk1
            have hstay : (Instr.keyThatStays (((es'[j]?).map (·.key)).getD kk) kk).run P w = .ok kk w := by
              have : ((es'[j]?).map (·.key)).getD kk = kk := by simp [hj, hsame]
              rw [this]
              simp [Instr.keyThatStays, hbits]
            have he2 : ERs ρ (es'.modify j fun e => { e with key := kk, val := xx }).toList (setE es xv j) := by
              rw [Array.toList_modify]
              refine setE_ok hx es'.toList es j es'[j] h2 (by simp [hj]) (fun e he => ?_)
              rw [hk2] at he; injection he with he; subst he
              have her := h2.2 j es'[j] e0 (by simp [hj]) hk2
              rw [← hsame]; exact her.1
            obtain ⟨f3, f4⟩ := hh.setMap e' hme (es2' := es'.modify j fun e => { e with key := kk, val := xx }) (ck2 := ck) he2
            refine ⟨undef, _, ρ, yu (s := Instr.mapUpdate ty (a.eval m) (a.eval k) (a.eval x)) (by simp only [execOp, ho]) ?_, VR.undef ρ, f3, f4⟩
            rw [hmm, hkk, hxx]
            unfold Instr.mapUpdate
            simp only [Sem.run_bind, run_underlying hu, Result.andThen, hg, run_checkKey hku hd, run_findKey hku f1, hstay]
            exact run_setObj h1 (fun _ _ _ e => by cases e)
        · rename_i hfe
          simp only [R.ok.injEq] at hr; obtain ⟨rfl, rfl⟩ := hr
          obtain ⟨r', f1, f2⟩ := findE_aux hd hk es 0 _ hfe es'.toList h2
          rcases f2 with ⟨_, f2⟩ | ⟨j', q, q', g1, _⟩
          · subst f2
            have he2 : ERs ρ (es'.push { key := kk, val := xx, born := ck }).toList (es ++ [⟨kv, xv, ck⟩]) := by
              rw [Array.toList_push]; exact ERs.push h2 ⟨hk, hx, rfl⟩
            obtain ⟨f3, f4⟩ := hh.setMap e' hme (ck2 := ck + 1) he2
            refine ⟨undef, _, ρ, yu (s := Instr.mapUpdate ty (a.eval m) (a.eval k) (a.eval x)) (by simp only [execOp, ho]) ?_, VR.undef ρ, f3, f4⟩
            rw [hmm, hkk, hxx]
            unfold Instr.mapUpdate
            simp only [Sem.run_bind, run_underlying hu, Result.andThen, hg, run_checkKey hku hd, run_findKey hku f1]
            exact run_setObj h1 (fun _ _ _ e => by cases e)
          · cases g1
        · cases hr
    · cases hr
  · cases hr
end Go.Ev
namespace Go.Ev
variable [Opq]
variable {ox oy : Operand} {P : Program} {E : List (Nat × Ext)} {ρ : Map} {B nt : Nat} {h h' : AH} {w : World} {a : Act} {t : Tr Value} {o : Oper} {v : Value}
/-! structs compared -/
theorem eqVals_nil (x y : List Value) : eqVals [] x y = match x, y with | [], [] => some true | _, _ => none := rfl
theorem eqVals_cons (k : FK) (ks : List FK) (x y : List Value) : eqVals (k :: ks) x y = match x, y with
      | x :: a', y :: b' => match k, x, y with
        | .int, .int k m, .int k' n => bif eqK k k' then (bif eqI m n then eqVals ks a' b' else some false) else none
        | .bool, .bool m, .bool n => bif m == n then eqVals ks a' b' else some false
        | .str, .string m, .string n => bif eqBytes m.data.toList n.data.toList then eqVals ks a' b' else some false
        | _, _, _ => none
      | _, _ => none := rfl
theorem VRs.tail {u v : Value} {x y : List Value} (h : VRs ρ (u :: x) (v :: y)) : VRs ρ x y := ⟨by have := h.1; simpa using this, fun j p q hp hq => h.2 (j + 1) p q (by simpa using hp) (by simpa using hq)⟩
theorem eqVals_vr : ∀ {ks : List FK} {x y xc yc : List Value} {r : Bool}, VRs ρ xc x → VRs ρ yc y → eqVals ks x y = some r → eqVals ks xc yc = some r
  | [], x, y, xc, yc, r, hx, hy, h => by
    rw [eqVals_nil] at h ⊢
    split at h
    · have e1 : xc = [] := List.eq_nil_of_length_eq_zero hx.1
      have e2 : yc = [] := List.eq_nil_of_length_eq_zero hy.1
      subst e1; subst e2; exact h
    · cases h
  | k :: ks, x, y, xc, yc, r, hx, hy, h => by
    rw [eqVals_cons] at h
    split at h
    · rename_i u x q y
      cases xc with
      | nil => have := hx.1; cases this
      | cons uc xc =>
        cases yc with
        | nil => have := hy.1; cases this
        | cons qc yc =>
          have hx0 := hx.2 0 uc u rfl rfl
          have hy0 := hy.2 0 qc q rfl rfl
          have ih : ∀ {r : Bool}, eqVals ks x y = some r → eqVals ks xc yc = some r := fun h => eqVals_vr hx.tail hy.tail h
          rw [eqVals_cons]
          simp only []
          split at h
          · rename_i k m k' n
            cases hx0; cases hy0
            simp only []
            cases hk : eqK k k' with
            | false => rw [hk] at h; cases h
            | true =>
              rw [hk] at h; simp only [cond_true] at h ⊢
              cases he : eqI m n with
              | false => rw [he] at h; exact h
              | true => rw [he] at h; exact ih h
          · rename_i m n
            cases hx0; cases hy0
            simp only []
            cases he : (m == n) with
            | false => rw [he] at h; exact h
            | true => rw [he] at h; exact ih h
          · rename_i m n
            cases hx0; cases hy0
            simp only []
            cases he : eqBytes m.data.toList n.data.toList with
            | false => rw [he] at h; exact h
            | true => rw [he] at h; exact ih h
          · cases h
    · cases h
theorem plainFields_nil (i : Nat) : plainFields P [] i = some [] := rfl
theorem plainFields_cons (f : Field) (fs : List Field) (i : Nat) : plainFields P (f :: fs) i = bif Nat.beq f.offset i && !(f.name == "_") then (match plainFields P fs (i + 1), P.underlying f.type with
      | some l, some (.int _) => some (.int :: l)
      | some l, some .bool => some (.bool :: l)
      | some l, some .string => some (.str :: l)
      | _, _ => none) else none := rfl
theorem drop_one {l : List Value} {i : Nat} {u : Value} {r : List Value} (h : l.drop i = u :: r) : l[i]? = some u ∧ r = l.drop (i + 1) := by
  have h1 := List.getElem?_drop (xs := l) (i := i) (j := 0)
  rw [h] at h1
  have h2 := congrArg List.tail h
  exact ⟨by simpa using h1.symm, by simpa [List.tail_drop] using h2.symm⟩
theorem run_eqFields (d : Nat) (xs ys : Array Value) : ∀ (fs : List Field) (i : Nat) (ks : List FK) (r : Bool), plainFields P fs i = some ks → eqVals ks (xs.toList.drop i) (ys.toList.drop i) = some r →
    (Op.eqFields (d + 1) xs ys fs).run P w = .ok r w
  | [], i, ks, r, hp, h => by
    rw [plainFields_nil] at hp; injection hp with hp; subst hp
    rw [eqVals_nil] at h
    split at h
    · injection h with h; subst h; rfl
    · cases h
  | f :: fs, i, ks, r, hp, h => by
    rw [plainFields_cons] at hp
    cases hc : (Nat.beq f.offset i && !(f.name == "_")) with
    | false => rw [hc] at hp; cases hp
    | true =>
      rw [hc] at hp
      simp only [cond_true] at hp
      rw [Bool.and_eq_true] at hc
      have p1 := Nat.eq_of_beq_eq_true hc.1
      have hname : f.name ≠ "_" := by intro e; have := hc.2; simp [e] at this
      -- one field
      have one : ∀ {k : FK} {l : List FK}, plainFields P fs (i + 1) = some l → ks = k :: l → isAggT P f.type = some false →
          (∀ u q b, (match k, u, q with
            | .int, .int k m, .int k' n => bif eqK k k' then some (eqI m n) else none
            | .bool, .bool m, .bool n => some (m == n)
            | .str, .string m, .string n => some (eqBytes m.data.toList n.data.toList)
            | _, _, _ => none) = some b → (Op.equalIn (d + 1) f.type u q).run P w = .ok b w) → (Op.eqFields (d + 1) xs ys (f :: fs)).run P w = .ok r w := by
        intro k l hl hks hag heq
        subst hks
        rw [eqVals_cons] at h
        split at h
        · rename_i u xr q yr hx hy
          obtain ⟨hxi, rfl⟩ := drop_one hx
          obtain ⟨hyi, rfl⟩ := drop_one hy
          rw [Array.getElem?_toList] at hxi hyi
          have part1 : (part f.type xs f.offset).run P w = .ok u w := by
            unfold part
            simp only [Sem.run_bind, run_isAggT hag, Result.andThen, p1, hxi]
            rfl
          have part2 : (part f.type ys f.offset).run P w = .ok q w := by
            unfold part
            simp only [Sem.run_bind, run_isAggT hag, Result.andThen, p1, hyi]
            rfl
          have fin : ∀ {b : Bool}, (Op.equalIn (d + 1) f.type u q).run P w = .ok b w → (bif b then eqVals l (xs.toList.drop (i + 1)) (ys.toList.drop (i + 1)) else some false) = some r → (Op.eqFields (d + 1) xs ys (f :: fs)).run P w = .ok r w := by
            intro b hb hr
            rw [Op.eqFields, if_pos hname]
            simp only [Sem.run_bind, part1, part2, hb, Result.andThen]
            cases b with
            | true => simp only [cond_true] at hr; simp only [Bool.not_true, Bool.false_eq_true, if_false]; exact run_eqFields d xs ys fs (i + 1) l r hl hr
            | false => simp only [cond_false, Option.some.injEq] at hr; subst hr; rfl
          split at h
          · rename_i k m k' n
            cases hk : eqK k k' with
            | false => rw [hk] at h; cases h
            | true => rw [hk] at h; exact fin (heq _ _ (eqI m n) (by simp only [hk]; rfl)) h
          · exact fin (heq _ _ _ rfl) h
          · exact fin (heq _ _ _ rfl) h
          · cases h
        · cases h
      split at hp
      · rename_i l k hl hu
        injection hp with hp
        refine one hl hp.symm (by unfold isAggT; rw [hu]) (fun u q b hb => ?_)
        split at hb <;> first | (cases hb; done) | skip
        all_goals (rename_i hkk; first | (cases hkk; done) | skip)
        all_goals (
          rename_i k m k' n
          cases hk : eqK k k' with
          | false => rw [hk] at hb; cases hb
          | true =>
            rw [hk] at hb; simp only [cond_true, Option.some.injEq] at hb; subst hb
            have := eqK_eq hk; subst this
            rw [run_equalIn_int w d f.type k _ m n hu, eqI_eq]
            congr 1)
      · rename_i l hl hu
        injection hp with hp
        refine one hl hp.symm (by unfold isAggT; rw [hu]) (fun u q b hb => ?_)
        split at hb <;> first | contradiction | (injection hb with hb; subst hb; exact run_equalIn_bool' w d f.type _ _ hu)
      · rename_i l hl hu
        injection hp with hp
        refine one hl hp.symm (by unfold isAggT; rw [hu]) (fun u q b hb => ?_)
        split at hb <;> first | contradiction | (injection hb with hb; subst hb; rw [run_equalIn_string w d f.type _ _ hu, bytes_eq, beq_toListBytes])
      · cases hp
theorem snd_eqAgg {op : BinOp} {ty ty2 : TypeId} {x y : Operand} {fs : Array Field} {ks : List FK} {neq : Bool} (ho : o.op = .binOp op ty x y ty2) (hop : op = if neq then .neq else .eql) (hu : P.underlying ty = some (.struct fs))
    (hg : P.eqGuardType P.depth ty = false) (hs : P.stoodInHeld ty = false) (hks : plainFields P fs.toList 0 = some ks) (hok : Oks o) (hh : HR P ρ B h w) (ht : TR ρ nt a.tmps t) (hr : opEqAgg ks neq (srcOf x) (srcOf y) t h = .ok v h') : Goal P ρ B h w a o v h' := by
  have hx := opd ht (hok x (by simp [ho, Op.operands]))
  have hy := opd ht (hok y (by simp [ho, Op.operands]))
  unfold opEqAgg at hr
  generalize (srcOf x).ev t = xv at hx hr
  generalize hxx : a.eval x = xx at hx
  generalize (srcOf y).ev t = yv at hy hr
  generalize hyy : a.eval y = yy at hy
  split at hr
  · split at hr
    · rename_i r hq
      simp only [R.ok.injEq] at hr; obtain ⟨rfl, rfl⟩ := hr
      cases hx with
      | agg h1 h2 =>
        rename_i xc
        cases hy with
        | agg h3 h4 =>
          rename_i yc
          have hq' := eqVals_vr (VRs.of_arr h1 h2) (VRs.of_arr h3 h4) hq
          have hfo : P.fieldsOf ty = fs := by simp [Program.fieldsOf, hu]
          have heq : (Op.equalIn 10000 ty (.agg xc) (.agg yc)).run P w = .ok r w := by
            have := run_equalIn_struct (P := P) w 9999 ty xc yc (by rw [hfo]; exact hu) hs
            rw [this, hfo]
            exact run_eqFields 9998 xc yc fs.toList 0 ks r hks (by simpa using hq')
          refine OkRes.still hh (u := .bool (bif neq then !r else r)) (yl (s := do eqGuard op ty x y (a.eval x) (a.eval y); binOp op ty (a.eval x) (a.eval y)) (by simp only [execOp, ho]) ?_) (.bool _)
          rw [hxx, hyy, Sem.run_bind, run_eqGuard_agg w op ty x y xc yc hg]
          simp only [Result.andThen]
          subst hop
          cases neq with
          | true => simp only [if_true]; rw [run_neq_struct, heq]; rfl
          | false => simp only [Bool.false_eq_true, if_false]; rw [run_eql_struct, heq]; rfl
    · cases hr
  · cases hr
/-! bytes of a text -/
theorem byteVals_len (l : List UInt8) : (byteVals l).length = l.length := by simp [byteVals]
theorem freeze_row {c n m : Nat} {cs : Array Value} {e : TypeId} {fr : Nat × Nat} (hc : w.heap[c]? = some (.cells cs e fr)) (hm : m ≠ 0) : w.freeze ⟨c, n, none⟩ m = w.putAt c (.cells cs e (if fr.1 == fr.2 then (n, n + m) else (min fr.1 n, max fr.2 (n + m)))) := by
  have hlt : c < w.heap.size := (Array.getElem?_eq_some_iff.1 hc).1
  unfold World.freeze World.putAt
  rw [if_neg hm]
  congr 1
  apply Array.ext_getElem?
  intro j
  rw [Array.getElem?_modify]
  by_cases ej : c = j
  · subst ej; rw [if_pos rfl, hc, Array.getElem?_setIfInBounds_self_of_lt hlt]; rfl
  · rw [if_neg ej, Array.getElem?_setIfInBounds_ne ej]
theorem alloc_putAt (w : World) (o1 o2 : Obj) : (w.alloc o1).putAt w.heap.size o2 = w.alloc o2 := by
  unfold World.alloc World.putAt
  congr 1
  apply Array.ext_getElem?
  intro j
  by_cases ej : w.heap.size = j
  · subst ej; rw [Array.getElem?_setIfInBounds_self_of_lt (by simp)]; simp
  · rw [Array.getElem?_setIfInBounds_ne ej, Array.getElem?_push, Array.getElem?_push, if_neg (fun e => ej e.symm), if_neg (fun e => ej e.symm)]
theorem snd_toBytes {src dst : TypeId} {x : Operand} {e : TypeId} (ho : o.op = .convert src dst x) (hs : P.underlying src = some .string) (hd : P.underlying dst = some (.slice e)) (he : P.underlying e = some (.int .u8)) (hsz : sizeT P e = some 1) (hok : Oks o) (hh : HR P ρ B h w) (ht : TR ρ nt a.tmps t)
    (hr : opToBytes e (srcOf x) t h = .ok v h') (hf : Fresh ρ h.next h'.next) : Goal P ρ B h w a o v h' := by
  have hx := opd ht (hok x (by simp [ho, Op.operands]))
  unfold opToBytes at hr
  generalize (srcOf x).ev t = xv at hx hr
  generalize hxx : a.eval x = xx at hx
  split at hr
  · rename_i s
    cases hx
    simp only [R.ok.injEq] at hr; obtain ⟨rfl, rfl⟩ := hr
    have es : s.size = s.data.toList.length := rfl
    -- the capacity that is drawn
    generalize hcap : (Question.appendCap s.size 0 e).cut (w.tape w.drawn (.appendCap s.size 0 e)) = cap
    have hge : s.size ≤ cap := by rw [← hcap]; simp only [Question.cut]; omega
    let arr : Array Value := (s.data.map fun b => Value.int .u8 b.toNat) ++ Array.replicate (cap - s.size) (.int .u8 0)
    have harr : arr.size = cap := by simp [arr]; have : s.data.size = s.size := rfl; omega
    have hcell1 : P.cellsOf e = 1 := by
      unfold sizeT at hsz; unfold Program.cellsOf
      cases hi : P.info? e with
      | none => rw [hi] at hsz; cases hsz
      | some i => rw [hi] at hsz; simp at hsz; simp [hsz]
    have hrun : (Conv.stringToBytes e s).run P w = .ok (.slice (some ⟨w.heap.size, 0, none⟩) s.size cap) ({ w with drawn := w.drawn + 1 }.alloc (.cells arr e (cap, cap + 1))) := by
      unfold Conv.stringToBytes
      simp only [Sem.run_bind, run_choose, Question.forced, Bool.false_eq_true, if_false, hcap, Result.andThen, newRow, run_newObj, Sem.run_pure, markStringish, run_shape]
      have hshape : (World.shape? { heap := w.heap.push (Obj.cells arr e), tape := w.tape, drawn := w.drawn + 1, os := w.os, output := w.output } w.heap.size) = some (e, cap) := by
        simp [World.shape?, harr]
      simp only [arr] at hshape
      rw [hshape]
      simp only [run_freeze, Result.andThen, Sem.run_bind, Sem.run_pure]
      have := freeze_row (w := { w with drawn := w.drawn + 1 }.alloc (.cells arr e)) (c := w.heap.size) (n := cap) (m := 1) (cs := arr) (e := e) (fr := (0, 0)) (push_new { w with drawn := w.drawn + 1 } _) (by decide)
      simp only [beq_self_eq_true, if_true] at this
      rw [show ({ w with drawn := w.drawn + 1 } : World).heap.size = w.heap.size from rfl] at *
      congr 1
      exact this.trans (alloc_putAt { w with drawn := w.drawn + 1 } _ _)
    have hh2 := hh.drew (w.drawn + 1)
    obtain ⟨f1, f2⟩ := hh2.add (fresh1 hf) (.cells ⟨Tr.putAll (byteVals s.data.toList) 0 .nil, undefV, s.data.toList.length, e, false, h.next, 0, true⟩) (.cells arr e (cap, cap + 1)) (cap - s.size) (Tr.set (path h.next) (s.data.toList.length, [h.next]) h.fams)
      ⟨arr, (cap, cap + 1), rfl, by rw [hcell1, harr]; show s.size + (cap - s.size) * 1 ≤ cap; omega, (fun e => by cases e), fun j h1 h2 => .inr ⟨rfl, by rw [harr]; exact h1⟩, Nat.le_succ _, fun i u hi => by
        obtain ⟨g1, g2⟩ := cell_list (by rw [byteVals_len]; exact Nat.le_refl _) hi
        have g1' : i < s.data.size := by simpa using g1
        refine ⟨u, ?_, ?_⟩
        · simp only [arr]
          rw [Array.getElem?_append_left (by simpa using g1')]
          rw [← Array.getElem?_toList]
          simpa [byteVals] using g2
        · have := (bytes_VRs (ρ := (ρ.set h.next (w.heap.size, cap - s.size))) s.data.toList).2 i u u g2 g2; exact this⟩
      (fun f hf => by rw [Tr.get_set, if_neg hf]) (fun K ek => by injection ek with ek; subst ek; exact ⟨rfl, by rw [Tr.get_set, if_pos rfl]⟩)
    refine ⟨.slice (some ⟨w.heap.size, 0, none⟩) s.size cap, _, _, yl (s := convert src dst (a.eval x)) (by simp only [execOp, ho]) ?_, ?_, f1, (Step.drew ρ h w (w.drawn + 1)).trans f2⟩
    · rw [hxx]
      simp only [convert, Sem.run_bind, run_underlying hs, run_underlying hd, Result.andThen, run_underlying he]
      exact hrun
    · have := VR.sliceX (ρ := ρ.set h.next (w.heap.size, cap - s.size)) (b := h.next) (c := w.heap.size) (x := cap - s.size) 0 s.data.toList.length s.data.toList.length (Map.set_self _ _ _)
      rw [show s.data.toList.length + (cap - s.size) = cap by rw [← es]; omega] at this
      exact this
  · cases hr
end Go.Ev
namespace Go.Ev
variable [Opq]
variable {ox oy : Operand} {P : Program} {E : List (Nat × Ext)} {ρ : Map} {B nt : Nat} {h h' : AH} {w : World} {a : Act} {t : Tr Value} {o : Oper} {v : Value}
/-- what the second argument of an append yields -/
inductive Sx (P : Program) (i : TypeInfo) (tx : TypeId) (x : Value) (n : Nat) (news : List Value) (w : World) : Prop
  | cells : ((∃ e', P.underlying tx = some (.slice e')) ∨ P.underlying tx = some .string) → (∀ w' : World, (Builtin.lenOf x).run P w' = .ok n w') →
      (Builtin.firstCells i.size n x).run P w = .ok ⟨news⟩ w → (Builtin.firstCells i.size n x).run P w.drew = .ok ⟨news⟩ w.drew → Sx P i tx x n news w
  | zeros (k kk : IntKind) (z : Value) : P.underlying tx = some (.int kk) → x = .int k (Int.ofNat n) → i.zero = some z → n ≤ 1099511627776 → n * i.bytes ≤ 1099511627776 → z.cells.size = i.size → news = (Builtin.zeroCells z.cells n).toList → Sx P i tx x n news w
theorem wrapN {n : Nat} (h : n ≤ 1099511627776) : IntKind.i64.wrap (n : Int) = n := wrap_lt (k := .i64) (Nat.lt_of_le_of_lt h (by decide))
theorem zeroCells_nil {z : Array Value} {n : Nat} (h : n * z.size = 0) : Builtin.zeroCells z n = #[] := by
  unfold Builtin.zeroCells; rw [h]; apply Array.ext'; simp
theorem run_append_room {ts ty e tx : TypeId} {i : TypeInfo} {x : Value} {n : Nat} {news : List Value} {base : Option Addr} {sLen sCap : Nat} {w' : World} (ht : P.underlying ts = some (.slice e)) (hi : P.info? e = some i) (hs : Sx P i tx x n news w)
    (hroom : sLen + n ≤ sCap) (hst : (match base with | some ad => (storeCells (ad.add (sLen * i.size)) news).run P w | none => Result.ok () w) = .ok () w') :
    (Builtin.append_ #[ts, tx] ty #[.slice base sLen sCap, x]).run P w = .ok (.slice base (sLen + n) sCap) w' := by
  cases hs with
  | cells hk hl hc hd =>
    cases base with
    | none =>
      simp only [Result.ok.injEq, true_and] at hst; subst hst
      rcases hk with ⟨e', hk⟩ | hk <;> simp [Builtin.append_, run_underlying ht, run_underlying hk, sizeOf, typeInfo, hi, hl, hroom, hc]
    | some ad =>
      rcases hk with ⟨e', hk⟩ | hk <;> simp [Builtin.append_, run_underlying ht, run_underlying hk, sizeOf, typeInfo, hi, hl, hroom, hc, hst]
  | zeros k kk z hk hx hz hn hb hzs hnews =>
    subst hx
    have wn := wrapN hn
    have n0 : ¬ ((n : Int) < 0) := by omega
    have nb : ¬ ((281474976710656 : Int) < (n : Int) * (i.bytes : Int)) := by
      have hb : ((n * i.bytes : Nat) : Int) ≤ 1099511627776 := Int.ofNat_le.2 hb
      rw [Int.natCast_mul] at hb
      omega
    by_cases h0 : n * i.size = 0
    · have hn0 : news = [] := by rw [hnews, zeroCells_nil (by rw [hzs]; exact h0)]
      subst hn0
      cases base with
      | none =>
        simp only [Result.ok.injEq, true_and] at hst; subst hst
        simp [Builtin.append_, run_underlying ht, run_underlying hk, sizeOf, typeInfo, hi, asInt, asIntOf, wn, n0, nb, hroom]
        rcases Nat.mul_eq_zero.1 h0 with h | h <;> simp [h]
      | some ad =>
        simp [Builtin.append_, run_underlying ht, run_underlying hk, sizeOf, typeInfo, hi, asInt, asIntOf, wn, n0, nb, hroom]
        rcases Nat.mul_eq_zero.1 h0 with h | h <;> simp [h] <;> simp only [h, Nat.mul_zero] at hst <;> rw [hst] <;> rfl
    · have h1 : ¬ (n = 0 ∨ i.size = 0) := fun e => h0 (by rcases e with e | e <;> simp [e])
      cases base with
      | none =>
        simp only [Result.ok.injEq, true_and] at hst; subst hst
        simp [Builtin.append_, run_underlying ht, run_underlying hk, sizeOf, typeInfo, hi, asInt, asIntOf, wn, n0, nb, hroom, h1, zeroValue, hz]
      | some ad =>
        rw [hnews] at hst
        simp only [] at hst
        simp [Builtin.append_, run_underlying ht, run_underlying hk, sizeOf, typeInfo, hi, asInt, asIntOf, wn, n0, nb, hroom, h0, zeroValue, hz, hst]
theorem run_append_grow {ts ty e tx : TypeId} {i : TypeInfo} {z x : Value} {n : Nat} {news olds : List Value} {base : Option Addr} {sLen sCap : Nat} (ht : P.underlying ts = some (.slice e)) (hi : P.info? e = some i) (hz : i.zero = some z) (hs : Sx P i tx x n news w)
    (hold : (Builtin.firstCells i.size sLen (.slice base sLen sCap)).run P w.drew = .ok ⟨olds⟩ w.drew) (hg : sCap < sLen + n) (hn : (sLen + n) * (i.bytes + i.size + 1) ≤ 1099511627776) :
    (Builtin.append_ #[ts, tx] ty #[.slice base sLen sCap, x]).run P w = .ok (.slice (some ⟨w.heap.size, 0, none⟩) (sLen + n) (grownCap w (sLen + n) sCap e))
        (w.drew.alloc (.cells (((⟨olds⟩ : Array Value) ++ (⟨news⟩ : Array Value)) ++ Builtin.zeroCells z.cells (grownCap w (sLen + n) sCap e - (sLen + n))) e)) := by
  have hr : ¬ (sLen + n ≤ sCap) := by omega
  have hne : sLen + n ≤ 1099511627776 := Nat.le_trans (Nat.le_mul_of_pos_right _ (by omega)) hn
  have h63 : ¬ (9223372036854775807 < ((sLen : Int) + (n : Int))) := by omega
  have hb : (sLen + n) * i.bytes ≤ 1099511627776 := Nat.le_trans (Nat.mul_le_mul_left _ (by omega)) hn
  have h48 : ¬ (281474976710656 < Builtin.nextslicecap (sLen + n) sCap * i.bytes) := by
    have h1 := Nat.mul_le_mul_right i.bytes (Room.nextslicecap_le' (need := sLen + n) (old := sCap) hg)
    rw [Nat.mul_assoc] at h1
    omega
  cases hs with
  | cells hk hl hc hd =>
    rcases hk with ⟨e', hk⟩ | hk <;> simp [Builtin.append_, run_underlying ht, run_underlying hk, sizeOf, typeInfo, zeroValue, hi, hz, hl, hr, h63, h48, Question.forced, hd, hold, newRow, grownCap]
      <;> (congr 2; apply Array.ext'; simp)
  | zeros k kk z' hk hx hz' hn' hb' hzs hnews =>
    subst hx
    rw [hz] at hz'; injection hz' with hz'; subst hz'
    have wn := wrapN hn'
    have n0 : ¬ ((n : Int) < 0) := by omega
    have nb : ¬ ((281474976710656 : Int) < (n : Int) * (i.bytes : Int)) := by
      have hb : ((n * i.bytes : Nat) : Int) ≤ 1099511627776 := Int.ofNat_le.2 hb'
      rw [Int.natCast_mul] at hb
      omega
    by_cases h0 : n * i.size = 0
    · have hn0 : news = [] := by rw [hnews, zeroCells_nil (by rw [hzs]; exact h0)]
      subst hn0
      simp [Builtin.append_, run_underlying ht, run_underlying hk, sizeOf, typeInfo, zeroValue, hi, hz, asInt, asIntOf, wn, n0, nb, hr, h63, h48, Question.forced, hold, newRow, grownCap]
      rcases Nat.mul_eq_zero.1 h0 with h | h <;> simp [h]
    · have h1 : ¬ (n = 0 ∨ i.size = 0) := fun e => h0 (by rcases e with e | e <;> simp [e])
      subst hnews
      simp [Builtin.append_, run_underlying ht, run_underlying hk, sizeOf, typeInfo, zeroValue, hi, hz, asInt, asIntOf, wn, n0, nb, hr, h63, h48, Question.forced, hold, newRow, grownCap, h0]
end Go.Ev
namespace Go.Ev
variable [Opq]
variable {ox oy : Operand} {P : Program} {E : List (Nat × Ext)} {ρ : Map} {B nt : Nat} {h h' : AH} {w : World} {a : Act} {t : Tr Value} {o : Oper} {v : Value}
theorem valCells_eq (v : Value) : valCells v = v.cells.toList := by cases v <;> rfl
theorem cellsOf_size {e : TypeId} {i : TypeInfo} (hi : P.info? e = some i) : P.cellsOf e = i.size := by unfold Program.cellsOf; rw [hi]; rfl
theorem zeroCells_size (z : Array Value) (n : Nat) : (Builtin.zeroCells z n).size = n * z.size := by simp [Builtin.zeroCells]
theorem HR.drewW (hh : HR P ρ B h w) : HR P ρ B h w.drew := hh.drew _
theorem cell_drew (w : World) (ad : Addr) : w.drew.cell? ad = w.cell? ad := rfl
/-- the source of an append -/
theorem appSrc_ok {i : TypeInfo} {tx : TypeId} {zero : Option (List Value)} {z xc xv : Value} {n : Nat} {l : List Value} (hh : HR P ρ B h w) (hz : i.zero = some z) (hzs : (valCells z).length = i.size)
    (hk : (zero = none ∧ ((∃ e', P.underlying tx = some (.slice e')) ∨ P.underlying tx = some .string)) ∨ (zero = some (valCells z) ∧ plainV 6 z = true ∧ ∃ k, P.underlying tx = some (.int k)))
    (hx : VR ρ xc xv) (hs : appSrc i.size zero xv h = some (n, l)) (hn : n * (i.bytes + i.size + 1) ≤ 1099511627776) :
    ∃ news, VRs ρ news l ∧ Sx P i tx xc n news w ∧ l.length = n * i.size := by
  have cz : z.cells.size = i.size := by rw [← hzs, valCells_eq]; simp
  rcases hk with ⟨rfl, hk⟩ | ⟨rfl, hp, k, hk⟩
  · simp only [appSrc] at hs
    split at hs
    · rename_i n' k'
      cases hc : Nat.beq n' 0 with
      | false => rw [hc] at hs; cases hs
      | true =>
        rw [hc] at hs
        simp only [cond_true, Option.some.injEq, Prod.mk.injEq] at hs
        obtain ⟨rfl, rfl⟩ := hs
        have := Nat.eq_of_beq_eq_true hc; subst this
        cases hx
        exact ⟨[], VRs.nil ρ, .cells hk (fun _ => rfl) rfl rfl, by simp⟩
    · rename_i ad n' k'
      split at hs
      · rename_i l' hl'
        simp only [Option.some.injEq, Prod.mk.injEq] at hs
        obtain ⟨rfl, rfl⟩ := hs
        have key : ∀ {c o' x : Nat} {k : Nat}, ρ ad.block = some (c, x) → o' = ad.off ∨ n' = 0 → ∃ news, VRs ρ news l' ∧ Sx P i tx (.slice (some ⟨c, o', none⟩) n' k) n' news w ∧ l'.length = n' * i.size := by
          intro c o' x k hr ho
          obtain ⟨us, h1, h2, h3⟩ := hh.cellsOf hr hl'
          have h3' : ∀ (j : Nat) u, us[j]? = some u → w.cell? ⟨c, o' + j, none⟩ = some u := fun j u hu => by
            rcases ho with rfl | rfl
            · exact h3 j u hu
            · have : us = [] := List.eq_nil_of_length_eq_zero (by rw [h2]; simp)
              subst this; simp at hu
          have r1 := run_cells (P := P) (w := w) h3'
          have r2 := run_cells (P := P) (w := w.drew) (c := c) (o := o') (us := us) (fun j u hu => h3' j u hu)
          rw [h2] at r1 r2
          exact ⟨us, h1, .cells hk (fun _ => rfl) r1 r2, by rw [← h1.1, h2]⟩
        cases hx with
        | slice o' l'' k'' e' => exact key e' (.inl rfl)
        | sliceX o' l'' k'' e' => exact key e' (.inl rfl)
        | sliceE o1 o2 k'' i' e' => exact key e' (.inr rfl)
      · cases hs
    · rename_i s
      cases hc : Nat.beq i.size 1 with
      | false => rw [hc] at hs; cases hs
      | true =>
        rw [hc] at hs
        simp only [cond_true, Option.some.injEq, Prod.mk.injEq] at hs
        obtain ⟨rfl, rfl⟩ := hs
        have h1 := Nat.eq_of_beq_eq_true hc
        cases hx
        have hsz : s.size = s.data.toList.length := by simp
        refine ⟨byteVals s.data.toList, bytes_VRs _, .cells hk (fun _ => by rw [← hsz]; rfl) ?_ ?_, by rw [byteVals_len, h1]; omega⟩
        · rw [h1, ← hsz]; exact firstCells_string s w
        · rw [h1, ← hsz]; exact firstCells_string s w.drew
    · cases hs
  · simp only [appSrc] at hs
    split at hs
    · rename_i k' n'
      simp only [Option.some.injEq, Prod.mk.injEq] at hs
      obtain ⟨rfl, rfl⟩ := hs
      cases hx
      refine ⟨(Builtin.zeroCells z.cells n').toList, ?_, .zeros k' k z hk rfl hz (Nat.le_trans (Nat.le_mul_of_pos_right _ (by omega)) hn) (Nat.le_trans (Nat.mul_le_mul_left _ (by omega)) hn) cz rfl, by rw [repL_len, hzs]⟩
      exact zeros_list hp
    · cases hs
/-- a grown row -/
theorem grow_ok {e : TypeId} {i : TypeInfo} {z : Value} {old l olds news : List Value} {need cap : Nat} (hh : HR P ρ B h w) (hf : ρ h.next = none) (hi : P.info? e = some i) (hzs : (valCells z).length = i.size)
    (hold : VRs ρ olds old) (hnew : VRs ρ news l) (hlen : (old ++ l).length = need * i.size) (hcap : need ≤ cap) :
    VR (ρ.set h.next (w.heap.size, cap - need)) (.slice (some ⟨w.heap.size, 0, none⟩) need cap) (.slice (some ⟨h.next, 0, some 0⟩) need need) ∧
    HR P (ρ.set h.next (w.heap.size, cap - need)) B (h.new (Tr.putAll (old ++ l) 0 .nil) undefV (need * i.size) e false false) (w.drew.alloc (.cells (((⟨olds⟩ : Array Value) ++ (⟨news⟩ : Array Value)) ++ Builtin.zeroCells z.cells (cap - need)) e)) ∧
    Step ρ h w (ρ.set h.next (w.heap.size, cap - need)) (h.new (Tr.putAll (old ++ l) 0 .nil) undefV (need * i.size) e false false) (w.drew.alloc (.cells (((⟨olds⟩ : Array Value) ++ (⟨news⟩ : Array Value)) ++ Builtin.zeroCells z.cells (cap - need)) e)) := by
  have cz : z.cells.size = i.size := by rw [← hzs, valCells_eq]; simp
  have hall := hold.append hnew
  have hl2 : (olds ++ news).length = need * i.size := by rw [hall.1, hlen]
  obtain ⟨e1, e2⟩ := hh.drewW.newCells hf (cs := Tr.putAll (old ++ l) 0 .nil) (d := undefV) (size := need * i.size) (elem := e) (exact := false) (mark := false) (x := cap - need)
    (arr := ((⟨olds⟩ : Array Value) ++ (⟨news⟩ : Array Value)) ++ Builtin.zeroCells z.cells (cap - need))
    (by
      rw [cellsOf_size hi, Array.size_append, zeroCells_size, cz]
      have : ((⟨olds⟩ : Array Value) ++ (⟨news⟩ : Array Value)).size = need * i.size := by rw [← hl2]; simp
      rw [this]; exact Nat.le_refl _) (fun h => by cases h) (fun q u hq => by
      obtain ⟨g1, g2⟩ := cell_list (by rw [hlen]; exact Nat.le_refl _) hq
      obtain ⟨u', f1, f2⟩ := hall.get g2
      refine ⟨u', ?_, f2⟩
      have : ((⟨olds⟩ : Array Value) ++ (⟨news⟩ : Array Value)) = ⟨olds ++ news⟩ := by simp
      rw [this, Array.getElem?_append_left (by show q < (olds ++ news).length; rw [hl2]; exact g1), ← Array.getElem?_toList]
      exact f1)
  refine ⟨?_, e1, (Step.drew ρ h w _).trans e2⟩
  have := VR.sliceX (ρ := ρ.set h.next (w.heap.size, cap - need)) (b := h.next) (c := w.heap.size) (x := cap - need) 0 need need (Map.set_self _ _ _)
  rw [show need + (cap - need) = cap by omega] at this
  exact this
/-- a new member of a family -/
theorem HR.put (hh : HR P ρ B h w) (hf : ρ h.next = none) {b c' x' top : Nat} {K K' : Blk} {T : Tr AObj} {w' : World} {cs' : Array Value} {fr' : Nat × Nat} (hblk : Tr.get h.blocks (path b) = some (.cells K)) (hKf : K'.fam = K.fam) (hKs : K'.size ≤ top)
    (hold : ∀ j, j ≠ h.next → (Tr.get T (path j) = Tr.get h.blocks (path j) ∧ (j ∈ h.fam K.fam → ∀ K2, Tr.get h.blocks (path j) = some (.cells K2) → K2.fam = K.fam → K2.size ≤ top)) ∨
      (Tr.get T (path j) = some .dead ∧ ∃ K2, Tr.get h.blocks (path j) = some (.cells K2)))
    (hws : w.heap.size ≤ w'.heap.size) (hcl : c' < w'.heap.size) (hBc : B ≤ c') (hos : w'.os = w.os) (htape : w'.tape = w.tape) (hout : w'.output = w.output)
    (hrow : w'.heap[c']? = some (.cells cs' K'.elem fr')) (hnew : CR P (ρ.set h.next (c', x')) x' K' cs' fr') (hheap : ∀ d, d < w.heap.size → d ≠ c' → w'.heap[d]? = w.heap[d]?)
    (hsame : ∀ j oj xj, j ≠ h.next → Tr.get T (path j) = some oj → oj.live → Tr.get h.blocks (path j) = some oj → ρ j = some (c', xj) → (∃ K2, oj = .cells K2 ∧ K2.fam = K.fam) ∧ OR P ρ xj oj w'.heap[c']?)
    (htr : c' < w.heap.size → Tracked ρ h c') :
    HR P (ρ.set h.next (c', x')) B ⟨Tr.set (path h.next) (.cells K') T, Nat.succ h.next, Tr.set (path K.fam) (top, h.next :: h.fam K.fam) h.fams⟩ w' ∧
    Step ρ h w (ρ.set h.next (c', x')) ⟨Tr.set (path h.next) (.cells K') T, Nat.succ h.next, Tr.set (path K.fam) (top, h.next :: h.fam K.fam) h.fams⟩ w' := by
  have back : ∀ j oj, j ≠ h.next → Tr.get T (path j) = some oj → oj.live → Tr.get h.blocks (path j) = some oj := by
    intro j oj hj hg hlv
    rcases hold j hj with ⟨e, _⟩ | ⟨e, _⟩
    · rw [← e]; exact hg
    · rw [e] at hg; injection hg with hg; subst hg; exact hlv.elim
  have hle : Map.le ρ (ρ.set h.next (c', x')) := Map.le_set hf
  have fold : ∀ j q, j ≠ h.next → (ρ.set h.next (c', x')) j = some q → ρ j = some q := fun j q hj h => by simpa [Map.set, hj] using h
  have fnew : ∀ q, (ρ.set h.next (c', x')) h.next = some q → q = (c', x') := fun q h => by rw [Map.set_self] at h; injection h with h; exact h.symm
  have get : ∀ j, Tr.get (Tr.set (path h.next) (.cells K') T) (path j) = if j = h.next then some (.cells K') else Tr.get T (path j) := fun j => Tr.get_set _ _ _ _
  have hfam : ∀ f, f ≠ K.fam → Tr.get (Tr.set (path K.fam) (top, h.next :: h.fam K.fam) h.fams) (path f) = Tr.get h.fams (path f) := fun f hf => by rw [Tr.get_set, if_neg hf]
  have hfamS : Tr.get (Tr.set (path K.fam) (top, h.next :: h.fam K.fam) h.fams) (path K.fam) = some (top, h.next :: h.fam K.fam) := by rw [Tr.get_set, if_pos rfl]
  refine ⟨⟨?_, ?_, ?_, ?_, ?_, ?_, Nat.le_trans hh.base hws, ?_, old_of hh.old hos htape hout hws (fun d hd => hheap d (Nat.lt_of_lt_of_le hd hh.base) (by omega))⟩, ⟨hle, ?_, Nat.le_succ _, hws, hos, htape, hout, ?_⟩⟩
  · intro j cj xj hj
    by_cases e : j = h.next
    · subst e; cases fnew _ hj; exact ⟨hBc, hcl⟩
    · have := hh.lt j cj xj (fold j _ e hj); exact ⟨this.1, Nat.lt_of_lt_of_le this.2 hws⟩
  · intro j oj hg hlv
    simp only [get] at hg
    by_cases e : j = h.next
    · subst e; rw [if_pos rfl] at hg; injection hg with hg; subst hg
      exact ⟨c', x', Map.set_self _ _ _, cs', fr', hrow, hnew⟩
    · rw [if_neg e] at hg
      have hb := back j oj e hg hlv
      obtain ⟨cj, xj, e1, k1⟩ := hh.obj j oj hb hlv
      refine ⟨cj, xj, hle _ _ e1, ?_⟩
      by_cases ec : cj = c'
      · subst ec
        exact (hsame j oj xj e hg hlv hb e1).2.mono hle
      · rw [hheap cj (hh.lt _ _ _ e1).2 ec]; exact k1.mono hle
  · intro j oj hg
    simp only [get] at hg
    show j < h.next + 1
    by_cases e : j = h.next
    · omega
    · rw [if_neg e] at hg
      rcases hold j e with ⟨e1, _⟩ | ⟨_, K2, hK2⟩
      · have := hh.dom j oj (by rw [← e1]; exact hg); omega
      · have := hh.dom j _ hK2; omega
  · intro j j' o1 o2 d x1 x2 g1 g2 l1 l2 r1 r2 hne
    simp only [get] at g1 g2
    by_cases e1 : j = h.next
    · by_cases e2 : j' = h.next
      · exact absurd (e1.trans e2.symm) hne
      · subst e1
        rw [if_pos rfl] at g1; injection g1 with g1; subst g1
        rw [if_neg e2] at g2
        cases fnew _ r1
        obtain ⟨⟨K2, rfl, e3⟩, _⟩ := hsame j' o2 x2 e2 g2 l2 (back _ _ e2 g2 l2) (fold _ _ e2 r2)
        exact ⟨K', K2, rfl, rfl, by rw [hKf, e3]⟩
    · by_cases e2 : j' = h.next
      · subst e2
        rw [if_pos rfl] at g2; injection g2 with g2; subst g2
        rw [if_neg e1] at g1
        cases fnew _ r2
        obtain ⟨⟨K2, rfl, e3⟩, _⟩ := hsame j o1 x1 e1 g1 l1 (back _ _ e1 g1 l1) (fold _ _ e1 r1)
        exact ⟨K2, K', rfl, rfl, by rw [hKf, e3]⟩
      · rw [if_neg e1] at g1; rw [if_neg e2] at g2
        exact hh.inj j j' o1 o2 d x1 x2 (back _ _ e1 g1 l1) (back _ _ e2 g2 l2) l1 l2 (fold _ _ e1 r1) (fold _ _ e2 r2) hne
  · intro j K2 hg
    simp only [get] at hg
    show j ∈ (match Tr.get (Tr.set (path K.fam) (top, h.next :: h.fam K.fam) h.fams) (path K2.fam) with | some l => l.2 | none => [])
    by_cases e : j = h.next
    · subst e; rw [if_pos rfl] at hg; injection hg with hg; injection hg with hg; subst hg
      rw [hKf, hfamS]; simp
    · rw [if_neg e] at hg
      have hm := hh.fams j K2 (back _ _ e hg trivial)
      by_cases ef : K2.fam = K.fam
      · rw [ef, hfamS]; rw [ef] at hm; simp [hm]
      · rw [hfam _ ef]; exact hm
  · intro j K2 hg
    simp only [get] at hg
    show K2.fam < h.next + 1
    by_cases e : j = h.next
    · subst e; rw [if_pos rfl] at hg; injection hg with hg; injection hg with hg; subst hg
      rw [hKf]; have := hh.fl b K hblk; omega
    · rw [if_neg e] at hg; have := hh.fl j K2 (back _ _ e hg trivial); omega
  · intro j K2 hg
    simp only [get] at hg
    show K2.size ≤ (match Tr.get (Tr.set (path K.fam) (top, h.next :: h.fam K.fam) h.fams) (path K2.fam) with | some l => l.1 | none => 0)
    by_cases e : j = h.next
    · subst e; rw [if_pos rfl] at hg; injection hg with hg; injection hg with hg; subst hg
      rw [hKf, hfamS]; exact hKs
    · rw [if_neg e] at hg
      have hb := back _ _ e hg trivial
      by_cases ef : K2.fam = K.fam
      · rw [ef, hfamS]
        rcases hold j e with ⟨_, hsz⟩ | ⟨e4, _⟩
        · have hm := hh.fams j K2 hb
          rw [ef] at hm
          exact hsz hm K2 hb ef
        · rw [e4] at hg; cases hg
      · rw [hfam _ ef]; exact hh.tops j K2 hb
  · intro j h1 h2
    by_cases e : j = h.next
    · subst e; exact ⟨Nat.le_refl _, Nat.lt_succ_self _⟩
    · exact absurd (by simpa [Map.set, e] using h1) (by simpa [Map.set, e] using h2)
  · intro d hd ht
    have hdc : d ≠ c' := fun e => ht (by rw [e]; exact htr (by rw [← e]; exact hd))
    refine ⟨hheap d hd hdc, ?_⟩
    rintro ⟨j, xj, oj, hg, hlv, hrj⟩
    simp only [get] at hg
    by_cases e : j = h.next
    · subst e; cases fnew _ hrj; exact hdc rfl
    · rw [if_neg e] at hg
      exact ht ⟨j, xj, oj, back _ _ e hg hlv, hlv, fold _ _ e hrj⟩
/-- what stands of the elder blocks -/
theorem more_hold {K : Blk} {p : Nat} (hh : HR P ρ B h w) (j : Nat) (hj : j ≠ h.next) :
    (Tr.get (bif Nat.ble (h.top K.fam) p then h.blocks else kill h K.fam h.next p) (path j) = Tr.get h.blocks (path j) ∧ (j ∈ h.fam K.fam → ∀ K2, Tr.get h.blocks (path j) = some (.cells K2) → K2.fam = K.fam → K2.size ≤ p)) ∨
      (Tr.get (bif Nat.ble (h.top K.fam) p then h.blocks else kill h K.fam h.next p) (path j) = some .dead ∧ ∃ K2, Tr.get h.blocks (path j) = some (.cells K2)) := by
  cases hb : Nat.ble (h.top K.fam) p with
  | true =>
    refine .inl ⟨rfl, fun _ K2 hK2 hf2 => ?_⟩
    have := hh.tops j K2 hK2
    rw [hf2] at this
    exact Nat.le_trans this (Nat.le_of_ble_eq_true hb)
  | false =>
    rcases kill_get h K.fam h.next p j with ⟨e1, e2⟩ | ⟨_, e1, e2⟩
    · exact .inl ⟨e1, fun hm K2 hK2 _ => e2 hm hj K2 hK2⟩
    · exact .inr ⟨e1, e2⟩
/-- in place -/
theorem HR.more (hh : HR P ρ B h w) (hf : ρ h.next = none) {e : TypeId} {i : TypeInfo} {l us : List Value} {b c x x' p need : Nat} {K : Blk} (hi : P.info? e = some i) (hr : ρ b = some (c, x)) (hk : h.blk b = some K)
    (h1 : p ≤ K.size) (h2 : K.froz ≤ p) (h3 : K.elem = e) (hlen : p + l.length = need * i.size) (hroom : need * i.size + x' * i.size ≤ K.size + x * i.size) (hone : l.all oneC = true) (hv : VRs ρ us l) :
    ∃ w', (storeCells ⟨c, p, none⟩ us).run P w = .ok () w' ∧
      HR P (ρ.set h.next (c, x')) B ⟨Tr.set (path h.next) (.cells { K with cs := Tr.putAll l p K.cs, size := need * i.size, exact := false }) (bif Nat.ble (h.top K.fam) p then h.blocks else kill h K.fam h.next p), Nat.succ h.next, Tr.set (path K.fam) (need * i.size, h.next :: h.fam K.fam) h.fams⟩ w' ∧
      Step ρ h w (ρ.set h.next (c, x')) ⟨Tr.set (path h.next) (.cells { K with cs := Tr.putAll l p K.cs, size := need * i.size, exact := false }) (bif Nat.ble (h.top K.fam) p then h.blocks else kill h K.fam h.next p), Nat.succ h.next, Tr.set (path K.fam) (need * i.size, h.next :: h.fam K.fam) h.fams⟩ w' := by
  obtain ⟨cs, fr, hc, hcr⟩ := hh.row hr hk
  have hce : P.cellsOf K.elem = i.size := by rw [h3]; exact cellsOf_size hi
  have hrm := hcr.room
  rw [hce] at hrm
  have hul : us.length = l.length := hv.1
  have hrun := run_storeCells (P := P) (c := c) (o := p) us 0 w cs hc (by omega)
    (fun j hj1 hj2 hjf => by
      rcases hcr.froz j hjf.1 hjf.2 with h1 | ⟨_, h1⟩
      · omega
      · omega)
    (fun u hu => by
      obtain ⟨q, hq, rfl⟩ := List.mem_iff_getElem.1 hu
      have hq' : q < l.length := by omega
      exact (hv.2 q us[q] l[q] (by simp [hq]) (by simp [hq'])).one (List.all_eq_true.1 hone _ (by simp)))
  simp only [Nat.add_zero] at hrun
  refine ⟨_, hrun, ?_⟩
  have hblk := AH.blk_some hk
  have hcl := (hh.lt _ _ _ hr).2
  have hle : Map.le ρ (ρ.set h.next (c, x')) := Map.le_set hf
  refine hh.put hf (K := K) (top := need * i.size) hblk rfl (Nat.le_refl _) (fun j hj => ?_) (by simp) (by simpa using hcl) (hh.lt _ _ _ hr).1 rfl rfl rfl (by rw [putAt_get hcl, if_pos rfl]) ?_ (fun d _ hdc => by rw [putAt_get hcl, if_neg hdc]) (fun j oj xj hj hg hlv hb hrj => ?_) (fun _ => ⟨b, x, _, hblk, trivial, hr⟩)
  · rcases more_hold (K := K) (p := p) hh j hj with ⟨e1, e2⟩ | e
    · exact .inl ⟨e1, fun hm K2 hK2 hf2 => Nat.le_trans (e2 hm K2 hK2 hf2) (by omega)⟩
    · exact .inr e
  · refine ⟨by rw [splA_size]; show need * i.size + x' * P.cellsOf K.elem ≤ _; rw [hce]; omega, fun e => (by cases e), fun j h1 h2 => by rw [splA_size]; exact hcr.froz j h1 h2, hcr.ord, fun q u hq => ?_⟩
    rw [Blk.cell_eq] at hq
    rw [splA_get _ _ _ _ (by omega)]
    split at hq
    · rename_i hlt
      simp only [Option.some.injEq] at hq
      simp only [] at hlt
      rw [Tr.get_putAll] at hq
      by_cases hin : p ≤ q ∧ q < p + l.length
      · rw [if_pos hin] at hq
        rw [if_pos (by omega)]
        have hi2 : q - p < l.length := by omega
        rw [List.getElem?_eq_getElem hi2] at hq
        simp only [] at hq
        obtain ⟨u', e1, e2⟩ := hv.get (i := q - p) (v := u) (by rw [List.getElem?_eq_getElem hi2, hq])
        exact ⟨u', e1, e2.mono hle⟩
      · rw [if_neg hin] at hq
        rw [if_neg (by omega)]
        obtain ⟨u', e1, e2⟩ := hcr.cell q u (by rw [Blk.cell_eq, if_pos (by omega), hq])
        exact ⟨u', e1, e2.mono hle⟩
    · cases hq
  · have fam : ∃ K2, oj = .cells K2 ∧ K2.fam = K.fam := by
      by_cases e : j = b
      · subst e; rw [hblk] at hb; injection hb with hb; exact ⟨K, hb.symm, rfl⟩
      · obtain ⟨K1, K2, e1, e2, e3⟩ := hh.inj b j _ oj c x xj hblk hb trivial hlv hr hrj (fun q => e q.symm)
        injection e1 with e1; subst e1
        exact ⟨K2, e2, e3.symm⟩
    refine ⟨fam, ?_⟩
    obtain ⟨K2, rfl, e3⟩ := fam
    rw [putAt_get hcl, if_pos rfl]
    rcases more_hold (K := K) (p := p) hh j hj with ⟨_, hsz⟩ | ⟨e4, _⟩
    · have hm := hh.fams j K2 hb
      rw [e3] at hm
      have hsz := hsz hm K2 hb e3
      obtain ⟨c2, x2, e1, cs2, fr2, e5, hcr2⟩ := hh.obj j _ hb hlv
      rw [hrj] at e1; injection e1 with e1; cases e1
      rw [hc] at e5; injection e5 with e5; injection e5 with e6 e7 e8
      subst e6; subst e8
      refine ⟨splA cs p us, fr, by rw [e7], ⟨by rw [splA_size]; exact hcr2.room, fun e => by rw [splA_size]; exact hcr2.exact e, fun q h1 h2 => by rw [splA_size]; exact hcr2.froz q h1 h2, hcr2.ord, fun q u hq => ?_⟩⟩
      rw [splA_get _ _ _ _ (by omega)]
      have : q < K2.size := by rw [Blk.cell_eq] at hq; split at hq; · assumption
                               · cases hq
      rw [if_neg (by omega)]
      exact hcr2.cell q u hq
    · rw [e4] at hg; cases hg
/-- a new row in the family -/
theorem HR.moreNew (hh : HR P ρ B h w) (hf : ρ h.next = none) {e : TypeId} {i : TypeInfo} {z : Value} {l us olds : List Value} {b c x p need cap : Nat} {K : Blk} (hi : P.info? e = some i) (hzs : (valCells z).length = i.size) (hr : ρ b = some (c, x)) (hk : h.blk b = some K)
    (h1 : p ≤ K.size) (h3 : K.elem = e) (hlen : p + l.length = need * i.size) (hv : VRs ρ us l) (hol : olds.length = p) (hoc : ∀ (j : Nat) u, olds[j]? = some u → w.cell? ⟨c, j, none⟩ = some u) :
      HR P (ρ.set h.next (w.heap.size, cap - need)) B ⟨Tr.set (path h.next) (.cells { K with cs := Tr.putAll l p K.cs, size := need * i.size, exact := false }) (bif Nat.ble (h.top K.fam) p then h.blocks else kill h K.fam h.next p), Nat.succ h.next, Tr.set (path K.fam) (need * i.size, h.next :: h.fam K.fam) h.fams⟩ (w.drew.alloc (.cells (((⟨olds⟩ : Array Value) ++ (⟨us⟩ : Array Value)) ++ Builtin.zeroCells z.cells (cap - need)) e)) ∧
      Step ρ h w (ρ.set h.next (w.heap.size, cap - need)) ⟨Tr.set (path h.next) (.cells { K with cs := Tr.putAll l p K.cs, size := need * i.size, exact := false }) (bif Nat.ble (h.top K.fam) p then h.blocks else kill h K.fam h.next p), Nat.succ h.next, Tr.set (path K.fam) (need * i.size, h.next :: h.fam K.fam) h.fams⟩ (w.drew.alloc (.cells (((⟨olds⟩ : Array Value) ++ (⟨us⟩ : Array Value)) ++ Builtin.zeroCells z.cells (cap - need)) e)) := by
  obtain ⟨cs, fr, hc, hcr⟩ := hh.row hr hk
  have cz : z.cells.size = i.size := by rw [← hzs, valCells_eq]; simp
  have hce : P.cellsOf K.elem = i.size := by rw [h3]; exact cellsOf_size hi
  have hul : us.length = l.length := hv.1
  have hblk := AH.blk_some hk
  have hle : Map.le ρ (ρ.set h.next (w.heap.size, cap - need)) := Map.le_set hf
  have harr : ((⟨olds⟩ : Array Value) ++ (⟨us⟩ : Array Value)) = ⟨olds ++ us⟩ := by simp
  have hsz : (olds ++ us).length = need * i.size := by rw [List.length_append, hol, hul, hlen]
  refine hh.put hf (K := K) (top := need * i.size) (w' := w.drew.alloc _) hblk rfl (Nat.le_refl _) (fun j hj => ?_) (by simp) (by show w.heap.size < (w.heap.push _).size; simp) hh.base rfl rfl rfl (by subst h3; exact push_new w.drew _) ?_ (fun d hd _ => push_old (w := w.drew) hd) (fun j oj xj hj hg hlv hb hrj => ?_) (fun hlt => absurd hlt (Nat.lt_irrefl _))
  · rcases more_hold (K := K) (p := p) hh j hj with ⟨e1, e2⟩ | e
    · exact .inl ⟨e1, fun hm K2 hK2 hf2 => Nat.le_trans (e2 hm K2 hK2 hf2) (by omega)⟩
    · exact .inr e
  · refine ⟨?_, fun e => (by cases e), fun j _ h2 => absurd h2 (Nat.not_lt_zero _), Nat.le_refl _, fun q u hq => ?_⟩
    · show need * i.size + (cap - need) * P.cellsOf K.elem ≤ _
      rw [hce, harr, Array.size_append, zeroCells_size, cz]
      have : (⟨olds ++ us⟩ : Array Value).size = need * i.size := hsz
      rw [this]; exact Nat.le_refl _
    · rw [Blk.cell_eq] at hq
      split at hq
      · rename_i hlt
        simp only [Option.some.injEq] at hq
        simp only [] at hlt
        rw [harr, Array.getElem?_append_left (by show q < (olds ++ us).length; rw [hsz]; exact hlt), ← Array.getElem?_toList]
        show ∃ u', (olds ++ us)[q]? = some u' ∧ _
        rw [Tr.get_putAll] at hq
        rw [List.getElem?_append]
        by_cases hin : p ≤ q ∧ q < p + l.length
        · rw [if_pos hin] at hq
          rw [if_neg (by omega), hol]
          have hi2 : q - p < l.length := by omega
          rw [List.getElem?_eq_getElem hi2] at hq
          simp only [] at hq
          obtain ⟨u', e1, e2⟩ := hv.get (i := q - p) (v := u) (by rw [List.getElem?_eq_getElem hi2, hq])
          exact ⟨u', e1, e2.mono hle⟩
        · rw [if_neg hin] at hq
          have hqp : q < p := by omega
          rw [if_pos (by omega)]
          obtain ⟨u', e1, e2⟩ := hcr.cell q u (by rw [Blk.cell_eq, if_pos (by omega), hq])
          have hq2 : q < olds.length := by omega
          have := hoc q olds[q] (List.getElem?_eq_getElem hq2)
          rw [cell_of_row hc, e1] at this
          exact ⟨u', by rw [List.getElem?_eq_getElem hq2, this], e2.mono hle⟩
      · cases hq
  · have := (hh.lt _ _ _ hrj).2; omega
end Go.Ev
namespace Go.Ev
variable [Opq]
variable {ox oy : Operand} {P : Program} {E : List (Nat × Ext)} {ρ : Map} {B nt : Nat} {h h' : AH} {w : World} {a : Act} {t : Tr Value} {o : Oper} {v : Value}
theorem add_zero' (c o : Nat) : (⟨c, o, none⟩ : Addr).add 0 = ⟨c, o, none⟩ := rfl
theorem repL_nil_len {x : Nat} : x * 0 = 0 := Nat.mul_zero x
theorem firstCells_base {c o' k sLen n : Nat} {w1 : World} {olds : List Value} (h1 : olds.length = sLen * n) (h2 : ∀ (j : Nat) u, olds[j]? = some u → w1.cell? ⟨c, o' + j, none⟩ = some u) :
    (Builtin.firstCells n sLen (.slice (some ⟨c, o', none⟩) sLen k)).run P w1 = .ok ⟨olds⟩ w1 := by
  have := run_cells (P := P) (w := w1) h2
  rw [h1] at this; exact this
theorem snd_append {c : Call} {x y : Operand} {ts tx e : TypeId} {i : TypeInfo} {z : Value} {zero : Option (List Value)} (ho : o.op = .call c) (hc : c.callee = .builtin .append) (ha : c.args.toList = [x, y]) (hty : c.argTypes.toList = [ts, tx]) (hu : P.underlying ts = some (.slice e)) (hi : P.info? e = some i) (hz : i.zero = some z) (hzs : (valCells z).length = i.size)
    (hk : (zero = none ∧ ((∃ e', P.underlying tx = some (.slice e')) ∨ P.underlying tx = some .string)) ∨ (zero = some (valCells z) ∧ plainV 6 z = true ∧ ∃ k, P.underlying tx = some (.int k)))
    (hok : Oks o) (hh : HR P ρ B h w) (ht : TR ρ nt a.tmps t) (hr : opAppend e i.size i.bytes zero (srcOf x) (srcOf y) t h = .ok v h') (hf : Fresh ρ h.next h'.next) : Goal P ρ B h w a o v h' := by
  have hx := opd ht (okArg ho hok (x := x) (by rw [ha]; simp))
  have hy := opd ht (okArg ho hok (x := y) (by rw [ha]; simp))
  have hts := arr2 hty
  have harg : c.args.map a.eval = #[a.eval x, a.eval y] := by rw [arr2 ha, map2]
  have yld : ∀ {u : Value} {w' : World}, (Builtin.append_ #[ts, tx] o.type #[a.eval x, a.eval y]).run P w = .ok u w' → Yields P o a w u w' := by
    intro u w' h1
    refine yb ho hc fun cs => ?_
    rw [harg, hts]
    exact bval (s := Builtin.append_ #[ts, tx] o.type #[a.eval x, a.eval y]) h1
  unfold opAppend at hr
  generalize (srcOf x).ev t = xv at hx hr
  generalize a.eval x = xx at hx yld
  generalize (srcOf y).ev t = yv at hy hr
  generalize a.eval y = yy at hy yld
  split at hr
  · rename_i base sLen sCap n l hsrc
    simp only [] at hr
    cases hb : Nat.ble ((sLen + n) * (i.bytes + i.size + 1)) 1099511627776 with
    | false => rw [hb] at hr; cases hr
    | true =>
      rw [hb] at hr
      simp only [cond_true] at hr
      have hb := Nat.le_of_ble_eq_true hb
      obtain ⟨news, hv, hsx, hlen⟩ := appSrc_ok (i := i) (tx := tx) hh hz hzs hk hy hsrc (Nat.le_trans (Nat.mul_le_mul_right _ (by omega)) hb)
      cases hroom : Nat.ble (sLen + n) sCap with
      | true =>
        rw [hroom] at hr
        simp only [cond_true] at hr
        have hroom := Nat.le_of_ble_eq_true hroom
        unfold appRoom at hr
        split at hr
        · simp only [R.ok.injEq] at hr; obtain ⟨rfl, rfl⟩ := hr
          cases hx
          exact OkRes.still hh (yld (run_append_room (w' := w) hu hi hsx hroom rfl)) (.nilSlice _ _)
        · rename_i ad
          split at hr
          · simp only [R.ok.injEq] at hr; obtain ⟨rfl, rfl⟩ := hr
            have hn0 : news = [] := List.eq_nil_of_length_eq_zero (by rw [hv.1]; rfl)
            subst hn0
            cases hx with
            | slice o' l'' k'' e' => exact OkRes.still hh (yld (run_append_room (w' := w) hu hi hsx hroom rfl)) (.slice _ _ _ e')
            | sliceX o' l'' k'' e' => exact OkRes.still hh (yld (run_append_room (w' := w) hu hi hsx (by omega) rfl)) (.sliceX _ _ _ e')
            | sliceE o1 o2 k'' i' e' =>
              have : n = 0 := by omega
              subst this
              exact OkRes.still hh (yld (run_append_room (w' := w) hu hi hsx (by omega) rfl)) (.sliceE _ _ _ _ e')
          · rename_i hne
            split at hr
            · rename_i h2 hst
              simp only [R.ok.injEq] at hr; obtain ⟨rfl, rfl⟩ := hr
              cases hx with
              | slice o' l'' k'' e' =>
                obtain ⟨w', f1, f2, f3⟩ := hh.storeAll e' hst hv
                exact ⟨_, w', ρ, yld (run_append_room (w' := w') hu hi hsx hroom (by simp only [addr_add]; exact f1)), .slice _ _ _ e', f2, f3⟩
              | sliceX o' l'' k'' e' =>
                obtain ⟨w', f1, f2, f3⟩ := hh.storeAll e' hst hv
                exact ⟨_, w', ρ, yld (run_append_room (w' := w') hu hi hsx (by omega) (by simp only [addr_add]; exact f1)), .sliceX _ _ _ e', f2, f3⟩
              | sliceE o1 o2 k'' i' e' =>
                have : n = 0 := by omega
                subst this
                have : l = [] := List.eq_nil_of_length_eq_zero (by rw [hlen]; simp)
                exact absurd this hne
            · cases hr
      | false =>
        rw [hroom] at hr
        simp only [cond_false] at hr
        have hroom : sCap < sLen + n := by
          rcases Nat.lt_or_ge sCap (sLen + n) with h1 | h1
          · exact h1
          · rw [Nat.ble_eq_true_of_le h1] at hroom; cases hroom
        unfold appMore at hr
        split at hr
        · cases hs0 : Nat.beq sLen 0 with
          | false => rw [hs0] at hr; cases hr
          | true =>
            rw [hs0] at hr
            simp only [cond_true] at hr
            have := Nat.eq_of_beq_eq_true hs0; subst this
            simp only [grow, R.ok.injEq] at hr; obtain ⟨rfl, rfl⟩ := hr
            cases hx
            have hrun := run_append_grow (P := P) (w := w) (ts := ts) (ty := o.type) (olds := []) (base := none) (sLen := 0) (sCap := sCap) hu hi hz hsx rfl hroom hb
            obtain ⟨g1, g2, g3⟩ := grow_ok hh (fresh1 hf) hi hzs (VRs.nil ρ) hv (need := 0 + n) (by simpa using hlen) (grownCap_ge w (0 + n) sCap e)
            exact ⟨_, _, _, yld hrun, g1, g2, g3⟩
        · rename_i ad
          split at hr
          · rename_i hsp
            split at hr
            · rename_i old hold
              simp only [grow, R.ok.injEq] at hr; obtain ⟨rfl, rfl⟩ := hr
              cases hx with
              | slice o' l'' k'' e' =>
                obtain ⟨us, h1, h2, h3⟩ := hh.cellsOf e' hold
                have hrun := run_append_grow (P := P) (w := w) (ts := ts) (ty := o.type) (olds := us) (sLen := sLen) (sCap := sCap) hu hi hz hsx (firstCells_base (w1 := w.drew) h2 h3) hroom hb
                obtain ⟨g1, g2, g3⟩ := grow_ok hh (fresh1 hf) hi hzs h1 hv (need := sLen + n) (by rw [List.length_append, ← h1.1, h2, hlen, Nat.add_mul]) (grownCap_ge w (sLen + n) sCap e)
                exact ⟨_, _, _, yld hrun, g1, g2, g3⟩
              | sliceX o' l'' k'' e' => cases hsp
              | sliceE o1 o2 k'' i' e' => cases hsp
            · cases hr
          · cases hr
          · rename_i hsp
            split at hr
            · cases hr
            · rename_i K hK
              simp only [] at hr
              cases hcnd : (Nat.beq ad.off 0 && (Nat.ble (sLen * i.size) K.size && (Nat.ble K.froz (sLen * i.size) && (Nat.ble (sCap * i.size) K.size && (Nat.beq K.elem e && l.all oneC))))) with
              | false => rw [hcnd] at hr; cases hr
              | true =>
                rw [hcnd] at hr
                simp only [cond_true, R.ok.injEq] at hr; obtain ⟨rfl, rfl⟩ := hr
                simp only [Bool.and_eq_true] at hcnd
                obtain ⟨c1, c2, c3, c4, c5, c6⟩ := hcnd
                have c1 := Nat.eq_of_beq_eq_true c1
                have c2 := Nat.le_of_ble_eq_true c2
                have c3 := Nat.le_of_ble_eq_true c3
                have c4 := Nat.le_of_ble_eq_true c4
                have c5 := Nat.eq_of_beq_eq_true c5
                have hpl : sLen * i.size + l.length = (sLen + n) * i.size := by rw [hlen, Nat.add_mul]
                cases hx with
                | slice o' l'' k'' e' => cases hsp
                | sliceE o1 o2 k'' i' e' => cases hsp
                | @sliceX bb cc xx o' l'' k'' e' =>
                  simp only [] at c1; subst c1
                  by_cases hfit : sLen + n ≤ sCap + xx
                  · obtain ⟨w', f1, f2, f3⟩ := hh.more (fresh1 hf) (x' := sCap + xx - (sLen + n)) (need := sLen + n) hi e' hK c2 c3 c5 hpl (by
                      rw [← Nat.add_mul, show sLen + n + (sCap + xx - (sLen + n)) = sCap + xx by omega, Nat.add_mul]; omega) c6 hv
                    refine ⟨_, w', _, yld (run_append_room (w' := w') hu hi hsx hfit (by simp only [addr_add, Nat.zero_add]; exact f1)), ?_, f2, f3⟩
                    have := VR.sliceX (ρ := ρ.set h.next (cc, sCap + xx - (sLen + n))) (b := h.next) (c := cc) (x := sCap + xx - (sLen + n)) 0 (sLen + n) (sLen + n) (Map.set_self _ _ _)
                    rw [show sLen + n + (sCap + xx - (sLen + n)) = sCap + xx by omega] at this
                    exact this
                  · have hce : h.cellsOf bb 0 (sLen * i.size) = K.cellsOf (sLen * i.size) 0 := by
                      unfold AH.cellsOf
                      split
                      · rename_i h0; rw [h0]; rfl
                      · rw [hK]
                    obtain ⟨cs, fr, hrow, hcr⟩ := hh.row e' hK
                    have hold : ∃ olds : List Value, olds.length = sLen * i.size ∧ ∀ (j : Nat) u, olds[j]? = some u → w.cell? ⟨cc, j, none⟩ = some u := by
                      refine ⟨cs.toList.take (sLen * i.size), ?_, fun j u hj => ?_⟩
                      · have := hcr.room
                        simp; omega
                      · rw [List.getElem?_take] at hj
                        split at hj
                        · rw [cell_of_row hrow]; simpa using hj
                        · cases hj
                    obtain ⟨olds, ol, oc⟩ := hold
                    have hrun := run_append_grow (P := P) (w := w) (ts := ts) (ty := o.type) (olds := olds) (sLen := sLen) (sCap := sCap + xx) hu hi hz hsx (firstCells_base (w1 := w.drew) (c := cc) (o' := 0) (k := sCap + xx) ol (fun j u hj => by rw [Nat.zero_add]; exact oc j u hj)) (by omega) hb
                    obtain ⟨g2, g3⟩ := hh.moreNew (fresh1 hf) (need := sLen + n) (cap := grownCap w (sLen + n) (sCap + xx) e) hi hzs e' hK c2 c5 hpl hv ol oc
                    refine ⟨_, _, _, yld hrun, ?_, g2, g3⟩
                    have hge := grownCap_ge w (sLen + n) (sCap + xx) e
                    have := VR.sliceX (ρ := ρ.set h.next (w.heap.size, grownCap w (sLen + n) (sCap + xx) e - (sLen + n))) (b := h.next) (c := w.heap.size) (x := grownCap w (sLen + n) (sCap + xx) e - (sLen + n)) 0 (sLen + n) (sLen + n) (Map.set_self _ _ _)
                    rw [show sLen + n + (grownCap w (sLen + n) (sCap + xx) e - (sLen + n)) = grownCap w (sLen + n) (sCap + xx) e by omega] at this
                    exact this
  · cases hr
end Go.Ev
namespace Go.Ev
variable [Opq]
variable {ox oy : Operand} {P : Program} {E : List (Nat × Ext)} {ρ : Map} {B nt : Nat} {h h' : AH} {w : World} {a : Act} {t : Tr Value} {o : Oper} {v : Value}
theorem run_copy {ts : Array TypeId} {d e ty : TypeId} {n dLen dCap m : Nat} {base : Option Addr} {x : Value} {us : List Value} {w' : World} (h0 : ts[0]? = some d) (hu : P.underlying d = some (.slice e)) (hn : sizeT P e = some n) (hl : (Builtin.lenOf x).run P w = .ok m w)
    (hc : (Builtin.firstCells n (Nat.min m dLen) x).run P w = .ok ⟨us⟩ w) (hst : (match base with | some ad => (storeCells ad us).run P w | none => Result.ok () w) = .ok () w') :
    (Builtin.copy_ ts ty #[.slice base dLen dCap, x]).run P w = .ok (.int .i64 (Int.ofNat (Nat.min m dLen))) w' := by
  cases base with
  | none =>
    simp only [Result.ok.injEq, true_and] at hst; subst hst
    simp [Builtin.copy_, h0, run_underlying hu, hl, run_sizeT hn, hc, goInt]
  | some ad =>
    simp only [] at hst
    simp [Builtin.copy_, h0, run_underlying hu, hl, run_sizeT hn, hc, goInt, hst]
theorem copySrc_ok {size dLen n : Nat} {xc xv : Value} {l : List Value} (hh : HR P ρ B h w) (hx : VR ρ xc xv) (hs : copySrc size dLen xv h = some (n, l)) :
    ∃ us, VRs ρ us l ∧ (Builtin.lenOf xc).run P w = .ok n w ∧ (Builtin.firstCells size (Nat.min n dLen) xc).run P w = .ok ⟨us⟩ w ∧ (dLen = 0 → l = []) := by
  unfold copySrc at hs
  split at hs
  · simp only [Option.some.injEq, Prod.mk.injEq] at hs
    obtain ⟨rfl, rfl⟩ := hs
    cases hx
    exact ⟨[], VRs.nil ρ, rfl, rfl, fun _ => rfl⟩
  · rename_i ad n' k'
    split at hs
    · rename_i l' hcl
      simp only [Option.some.injEq, Prod.mk.injEq] at hs
      obtain ⟨rfl, rfl⟩ := hs
      have key : ∀ {c o' x k : Nat}, ρ ad.block = some (c, x) → (o' = ad.off ∨ n' = 0) → xc = .slice (some ⟨c, o', none⟩) n' k → ∃ us, VRs ρ us l' ∧ (Builtin.lenOf xc).run P w = .ok n' w ∧ (Builtin.firstCells size (Nat.min n' dLen) xc).run P w = .ok ⟨us⟩ w ∧ (dLen = 0 → l' = []) := by
        intro c o' x k hrho hoff hyy
        obtain ⟨us, h1, h2, h3⟩ := hh.cellsOf hrho hcl
        have h3' : ∀ (j : Nat) u, us[j]? = some u → w.cell? ⟨c, o' + j, none⟩ = some u := fun j u hu => by
          rcases hoff with rfl | rfl
          · exact h3 j u hu
          · have : us = [] := List.eq_nil_of_length_eq_zero (by rw [h2]; simp)
            subst this; simp at hu
        have := run_cells (P := P) (w := w) h3'
        rw [h2] at this
        refine ⟨us, h1, by rw [hyy]; rfl, by rw [hyy]; exact this, fun e => List.eq_nil_of_length_eq_zero ?_⟩
        rw [← h1.1, h2, e]; simp
      cases hx with
      | slice o' l'' k'' e' => exact key e' (.inl rfl) rfl
      | sliceX o' l'' k'' e' => exact key e' (.inl rfl) rfl
      | sliceE o1 o2 k'' i' e' => exact key e' (.inr rfl) rfl
    · cases hs
  · rename_i s
    cases hc : Nat.beq size 1 with
    | false => rw [hc] at hs; cases hs
    | true =>
      rw [hc] at hs
      simp only [cond_true, Option.some.injEq, Prod.mk.injEq] at hs
      obtain ⟨rfl, rfl⟩ := hs
      cases hx
      have hsz : s.size = s.data.toList.length := by simp
      refine ⟨_, bytes_VRs _, by rw [← hsz]; rfl, ?_, fun e => by rw [e]; simp [byteVals]⟩
      simp only [Builtin.firstCells, Sem.run_pure]
      congr 1
      apply Array.ext'
      have hle : Nat.min s.data.toList.length dLen ≤ s.data.toList.length := Nat.min_le_left _ _
      rw [Array.toList_map, ByteArray.data_extract, Array.toList_extract]
      simp [byteVals, List.extract]
  · cases hs
theorem snd_copy {c : Call} {x y : Operand} {ty e : TypeId} {ts : List TypeId} {n : Nat} (ho : o.op = .call c) (hc : c.callee = .builtin .copy) (ha : c.args.toList = [x, y]) (hty : c.argTypes.toList = ty :: ts) (hu : P.underlying ty = some (.slice e)) (hn : sizeT P e = some n)
    (hok : Oks o) (hh : HR P ρ B h w) (ht : TR ρ nt a.tmps t) (hr : opCopy n (srcOf x) (srcOf y) t h = .ok v h') : Goal P ρ B h w a o v h' := by
  have hx := opd ht (okArg ho hok (x := x) (by rw [ha]; simp))
  have hy := opd ht (okArg ho hok (x := y) (by rw [ha]; simp))
  have hts : c.argTypes[0]? = some ty := by rw [← Array.getElem?_toList, hty]; rfl
  have harg : c.args.map a.eval = #[a.eval x, a.eval y] := by rw [arr2 ha, map2]
  have yld : ∀ {u : Value} {w' : World}, (Builtin.copy_ c.argTypes o.type #[a.eval x, a.eval y]).run P w = .ok u w' → Yields P o a w u w' := by
    intro u w' h1
    refine yb ho hc fun cs => ?_
    rw [harg]
    exact bval (s := Builtin.copy_ c.argTypes o.type #[a.eval x, a.eval y]) h1
  unfold opCopy at hr
  generalize (srcOf x).ev t = xv at hx hr
  generalize a.eval x = xx at hx yld
  generalize (srcOf y).ev t = yv at hy hr
  generalize a.eval y = yy at hy yld
  split at hr
  · rename_i base dLen dCap
    split at hr
    · rename_i m l hs
      obtain ⟨us, hv, hl, hcl, h0⟩ := copySrc_ok hh hy hs
      split at hr
      · have : us = [] := List.eq_nil_of_length_eq_zero hv.1
        subst this
        simp only [R.ok.injEq] at hr; obtain ⟨rfl, rfl⟩ := hr
        cases hx with
        | nilSlice => exact OkRes.still hh (yld (run_copy hts hu hn hl hcl rfl)) (.int _ _)
        | slice o' l'' k'' e' => exact OkRes.still hh (yld (run_copy hts hu hn hl hcl rfl)) (.int _ _)
        | sliceX o' l'' k'' e' => exact OkRes.still hh (yld (run_copy hts hu hn hl hcl rfl)) (.int _ _)
        | sliceE o1 o2 k'' i' e' => exact OkRes.still hh (yld (run_copy hts hu hn hl hcl rfl)) (.int _ _)
      · rename_i hne
        split at hr
        · rename_i ad
          split at hr
          · rename_i h2 hst
            simp only [R.ok.injEq] at hr; obtain ⟨rfl, rfl⟩ := hr
            cases hx with
            | slice o' l'' k'' e' =>
              obtain ⟨w', f1, f2, f3⟩ := hh.storeAll e' hst hv
              exact ⟨_, w', ρ, yld (run_copy (w' := w') hts hu hn hl hcl f1), .int _ _, f2, f3⟩
            | sliceX o' l'' k'' e' =>
              obtain ⟨w', f1, f2, f3⟩ := hh.storeAll e' hst hv
              exact ⟨_, w', ρ, yld (run_copy (w' := w') hts hu hn hl hcl f1), .int _ _, f2, f3⟩
            | sliceE o1 o2 k'' i' e' => exact absurd (h0 rfl) hne
          · cases hr
        · cases hr
    · cases hr
  · cases hr
/-! a text out of bytes -/
theorem killA_cons (b i : Nat) (l : List Nat) (t : Tr AObj) : killA b (i :: l) t =
    bif Nat.beq i b then killA b l t else match Tr.get t (path i) with
      | some (.cells _) => killA b l (Tr.set (path i) .dead t)
      | _ => killA b l t := rfl
theorem killA_get (b : Nat) : ∀ (l : List Nat) (t : Tr AObj) (j : Nat),
    (Tr.get (killA b l t) (path j) = Tr.get t (path j) ∧ (j ∈ l → j ≠ b → ∀ K, Tr.get t (path j) ≠ some (.cells K))) ∨
    (j ≠ b ∧ Tr.get (killA b l t) (path j) = some .dead ∧ ∃ K, Tr.get t (path j) = some (.cells K)) := by
  intro l
  induction l with
  | nil => intro t j; exact .inl ⟨rfl, fun h => by cases h⟩
  | cons i l ih =>
    intro t j
    rw [killA_cons]
    cases hib : Nat.beq i b with
    | true =>
      have hib' : i = b := Nat.eq_of_beq_eq_true hib
      simp only [cond_true]
      rcases ih t j with ⟨h1, h2⟩ | h
      · refine .inl ⟨h1, fun hj hne => ?_⟩
        rcases List.mem_cons.1 hj with e | hj
        · exact absurd (e.trans hib') hne
        · exact h2 hj hne
      · exact .inr h
    | false =>
      have hib' : i ≠ b := fun e => by rw [e, Nat.beq_refl] at hib; cases hib
      simp only [cond_false]
      have other : (∀ K, Tr.get t (path i) ≠ some (.cells K)) → (Tr.get (killA b l t) (path j) = Tr.get t (path j) ∧ (j ∈ i :: l → j ≠ b → ∀ K, Tr.get t (path j) ≠ some (.cells K))) ∨
          (j ≠ b ∧ Tr.get (killA b l t) (path j) = some .dead ∧ ∃ K, Tr.get t (path j) = some (.cells K)) := fun hs => by
        rcases ih t j with ⟨h1, h2⟩ | h
        · refine .inl ⟨h1, fun hj hne K => ?_⟩
          rcases List.mem_cons.1 hj with e | hj
          · subst e; exact hs K
          · exact h2 hj hne K
        · exact .inr h
      cases hg : Tr.get t (path i) with
      | none => exact other (fun K => by rw [hg]; simp)
      | some o =>
        cases o with
        | cells K0 =>
          simp only []
          by_cases hji : j = i
          · subst hji
            rcases ih (Tr.set (path j) .dead t) j with ⟨h1, _⟩ | ⟨_, _, K, hK⟩
            · refine .inr ⟨hib', ?_, K0, hg⟩
              rw [h1, Tr.get_set, if_pos rfl]
            · rw [Tr.get_set, if_pos rfl] at hK; cases hK
          · rcases ih (Tr.set (path i) .dead t) j with ⟨h1, h2⟩ | ⟨h1, h2, K, hK⟩
            · rw [Tr.get_set, if_neg hji] at h1
              refine .inl ⟨h1, fun hj hne K => ?_⟩
              rcases List.mem_cons.1 hj with e | hj
              · exact absurd e hji
              · have := h2 hj hne K; rw [Tr.get_set, if_neg hji] at this; exact this
            · rw [Tr.get_set, if_neg hji] at hK
              exact .inr ⟨h1, h2, K, hK⟩
        | map es c => exact other (fun K => by rw [hg]; simp)
        | loop nt t' ps as bd st pe => exact other (fun K => by rw [hg]; simp)
        | dead => exact other (fun K => by rw [hg]; simp)
theorem run_loadBytesI : ∀ (l : List Int) (ad : Addr) (acc : ByteArray), (∀ (j : Nat) x, l[j]? = some x → w.cell? (ad.add j) = some (.int .u8 x)) →
    (loadBytes ad acc l.length).run P w = .ok ⟨acc.data ++ (l.map fun n => UInt8.ofNat n.toNat).toArray⟩ w
  | [], ad, acc, _ => by simp [loadBytes]
  | x :: l, ad, acc, h => by
    have h0 : w.cell? ad = some (.int .u8 x) := by
      have := h 0 x rfl
      simpa [Addr.add] using this
    have ih := run_loadBytesI l (ad.add 1) (acc.push (UInt8.ofNat x.toNat)) (fun j y hy => by
      have := h (j + 1) y (by simpa using hy)
      have e : (ad.add 1).add j = ad.add (j + 1) := by
        unfold Addr.add
        by_cases hj : j = 0
        · subst hj; simp
        · simp [hj]; omega
      rw [e]; exact this)
    simp only [List.length_cons, loadBytes, Sem.run_bind, run_load, h0, Result.andThen]
    refine Eq.trans ih ?_
    congr 1
    apply ByteArray.ext
    simp [ByteArray.push]
theorem liesAt_off {K : Blk} {e : TypeId} (hc : P.cellsOf K.elem = 1) (hu : P.underlyingId K.elem = P.underlyingId e) (count off n : Nat) (hn : off + n ≤ count) : liesAt P P.depth K.elem count off e n = true := by
  have hd : P.depth = (2 * (P.types.size + Made.depth) + 1) + 1 := rfl
  rw [hd]
  simp only [liesAt, Bool.or_eq_true]
  left
  rw [hd]
  simp [rowAt, hc, hn, sameLayout, hu, Nat.mod_one]
/-- some bytes are frozen: whoever else lies on that row is dead -/
theorem HR.freeze (hh : HR P ρ B h w) {b c x off n : Nat} {K : Blk} (hr : ρ b = some (c, x)) (hk : h.blk b = some K) (hm : K.mark = false) (hn : n ≠ 0) :
    HR P ρ B ⟨Tr.set (path b) (.cells { K with froz := bif Nat.ble (off + n) K.froz then K.froz else off + n }) (killA b (h.fam K.fam) h.blocks), h.next, h.fams⟩ (w.freeze ⟨c, off, none⟩ n) ∧
    Step ρ h w ρ ⟨Tr.set (path b) (.cells { K with froz := bif Nat.ble (off + n) K.froz then K.froz else off + n }) (killA b (h.fam K.fam) h.blocks), h.next, h.fams⟩ (w.freeze ⟨c, off, none⟩ n) := by
  obtain ⟨cs, fr, hc, hcr⟩ := hh.row hr hk
  rw [freeze_row hc hn]
  have hblk := AH.blk_some hk
  have hget : ∀ j, j ≠ b → Tr.get (Tr.set (path b) (.cells { K with froz := bif Nat.ble (off + n) K.froz then K.froz else off + n }) (killA b (h.fam K.fam) h.blocks)) (path j) = Tr.get (killA b (h.fam K.fam) h.blocks) (path j) := fun j hj => by rw [Tr.get_set, if_neg hj]
  have hfz : (bif Nat.ble (off + n) K.froz then K.froz else off + n) = max K.froz (off + n) := by
    cases hb : Nat.ble (off + n) K.froz with
    | true => have := Nat.le_of_ble_eq_true hb; simp only [cond_true]; omega
    | false =>
      have : ¬ (off + n ≤ K.froz) := fun e => by rw [Nat.ble_eq_true_of_le e] at hb; cases hb
      simp only [cond_false]; omega
  refine hh.upd hblk trivial hr (.cells { K with froz := bif Nat.ble (off + n) K.froz then K.froz else off + n }) _ _ (by rw [Tr.get_set, if_pos rfl]) ⟨cs, _, rfl, ?_⟩ (fun j hj => ?_) (fun j oj xj hj hg hlv hrj => ?_)
    (fun K0 e => ⟨_, rfl, by cases e; rfl⟩) (fun K0 e => ⟨K, rfl, by cases e; rfl, by cases e; rfl⟩)
  · have hord := hcr.ord
    refine ⟨hcr.room, hcr.exact, fun j h1 h2 => .inl ?_, ?_, fun i v hi => hcr.cell i v hi⟩
    · show j < (bif Nat.ble (off + n) K.froz then K.froz else off + n)
      rw [hfz]
      split at h1
      · rename_i e
        simp only [e, if_true] at h2
        simp only [] at h1
        omega
      · rename_i e
        simp only [e] at h2
        simp only [Bool.false_eq_true, if_false] at h2
        simp only [] at h1
        have hlt : fr.1 < fr.2 := by simp at e; omega
        have : fr.2 ≤ K.froz := by
          rcases hcr.froz (fr.2 - 1) (by omega) (by omega) with h3 | ⟨h3, _⟩
          · omega
          · rw [hm] at h3; cases h3
        omega
    · split
      · show off ≤ off + n; omega
      · show min fr.1 off ≤ max fr.2 (off + n); omega
  · rw [hget j hj]
    rcases killA_get b (h.fam K.fam) h.blocks j with ⟨e, _⟩ | ⟨_, e, K2, hK2⟩
    · exact .inl e
    · exact .inr ⟨e, _, hK2⟩
  · rw [hget j hj] at hg
    rcases killA_get b (h.fam K.fam) h.blocks j with ⟨e, hno⟩ | ⟨_, e, K2, hK2⟩
    · rw [e] at hg
      obtain ⟨K1, K2, e1, e2, e3⟩ := hh.inj b j _ oj c x xj hblk hg trivial hlv hr hrj (fun e => hj e.symm)
      injection e1 with e1; subst e1; subst e2
      have hmem := hh.fams j K2 hg
      rw [← e3] at hmem
      exact absurd hg (hno hmem hj K2)
    · rw [e] at hg; cases hg; exact hlv.elim
theorem snd_unsafeString {c : Call} {x y : Operand} {ty it e : TypeId} (ho : o.op = .call c) (hc : c.callee = .builtin .unsafeString) (ha : c.args.toList = [x, y]) (hty : c.argTypes.toList = [ty, it]) (hu : P.underlying ty = some (.pointer e))
    (hok : Oks o) (hh : HR P ρ B h w) (ht : TR ρ nt a.tmps t) (hr : opUnsafeString P e (srcOf x) (srcOf y) t h = .ok v h') : Goal P ρ B h w a o v h' := by
  have hx := opd ht (okArg ho hok (x := x) (by rw [ha]; simp))
  have hy := opd ht (okArg ho hok (x := y) (by rw [ha]; simp))
  have hts : c.argTypes = #[ty, it] := Array.ext' hty
  have harg : c.args.map a.eval = #[a.eval x, a.eval y] := by rw [arr2 ha, map2]
  have yld : ∀ {u : Value} {w' : World}, (Builtin.unsafeString_ #[ty, it] o.type #[a.eval x, a.eval y]).run P w = .ok u w' → Yields P o a w u w' := by
    intro u w' h1
    refine yb ho hc fun cs => ?_
    rw [harg, hts]
    exact bval (s := Builtin.unsafeString_ #[ty, it] o.type #[a.eval x, a.eval y]) h1
  unfold opUnsafeString at hr
  generalize (srcOf x).ev t = xv at hx hr
  generalize a.eval x = xx at hx yld
  generalize (srcOf y).ev t = yv at hy hr
  generalize a.eval y = yy at hy yld
  split at hr
  · rename_i kd
    cases hk : eqK kd .i64 with
    | false => rw [hk] at hr; cases hr
    | true =>
      rw [hk] at hr
      have := eqK_eq hk; subst this
      simp only [cond_true, R.ok.injEq] at hr; obtain ⟨rfl, rfl⟩ := hr
      cases hx; cases hy
      exact OkRes.still hh (yld (Lib.run_unsafeString_none w ty it o.type none)) (.string _)
  · rename_i p kd
    cases hk : eqK kd .i64 with
    | false => rw [hk] at hr; cases hr
    | true =>
      rw [hk] at hr
      have := eqK_eq hk; subst this
      simp only [cond_true, R.ok.injEq] at hr; obtain ⟨rfl, rfl⟩ := hr
      cases hx; cases hy
      exact OkRes.still hh (yld (Lib.run_unsafeString_none w ty it o.type _)) (.string _)
  · rename_i ad kd n hne
    split at hr
    · rename_i K hK
      split at hr
      · rename_i l hl
        split at hr
        · rename_i bs hb
          simp only [R.ok.injEq] at hr; obtain ⟨rfl, rfl⟩ := hr
          cases hcnd : (K.mark || !(eqK kd .i64 && Nat.ble n 1099511627776 && (Nat.beq (P.cellsOf K.elem) 1 && (Nat.beq K.elem e && (Nat.beq ad.off 0 && l.all smallB))))) with
          | true => rw [hcnd] at hb; cases hb
          | false =>
            rw [hcnd] at hb; simp only [cond_false] at hb
            simp only [Bool.or_eq_false_iff, Bool.not_eq_false', Bool.and_eq_true] at hcnd
            obtain ⟨c1, ⟨c0, c2⟩, c3, c4, c5, c6⟩ := hcnd
            have := eqK_eq c0; subst this
            have c2 := Nat.le_of_ble_eq_true c2
            have c3 := Nat.eq_of_beq_eq_true c3
            have c4 := Nat.eq_of_beq_eq_true c4
            have c5 := Nat.eq_of_beq_eq_true c5
            obtain ⟨ns, e1, e2⟩ := bytesOf_spec l bs hb
            cases hy
            cases hx with
            | @ptr bb cc xx' o' s e' =>
              simp only [] at hK c5
              subst c5
              have hn0 : n ≠ 0 := fun e => by
                exact hne e
              obtain ⟨us, f1, f2, f3⟩ := hh.blkCells e' hK hl
              rw [e1] at f1
              have f4 := VRs.bytes f1
              have hnl : ns.length = n := by rw [← f2, f4]; simp
              have hbl : bs.length = n := by rw [e2]; simpa using hnl
              obtain ⟨cs, fr, hrow, hcr⟩ := hh.row e' hK
              have hsz : n ≤ cs.size := by
                have h3 := f3 (n - 1) _ (List.getElem?_eq_getElem (by rw [f2]; omega))
                rw [cell_of_row hrow] at h3
                have := (Array.getElem?_eq_some_iff.1 h3).1
                simp only [] at this
                omega
              have hshape : w.shape? cc = some (K.elem, cs.size) := by unfold World.shape?; rw [hrow]
              obtain ⟨g1, g2⟩ := hh.freeze (off := 0) (n := n) e' hK c1 hn0
              have hcell : ∀ (j : Nat) (x : UInt8), bs[j]? = some x → w.cell? ((⟨cc, 0, none⟩ : Addr).add j) = some (.int .u8 x.toNat) := fun j x hj => by
                rw [e2, List.getElem?_map] at hj
                obtain ⟨m, hm, rfl⟩ := Option.map_eq_some_iff.1 hj
                have hm6 : smallB (.int .u8 m) = true := List.all_eq_true.1 c6 _ (by rw [e1]; exact List.mem_map.2 ⟨m, List.mem_of_getElem? hm, rfl⟩)
                have hnat : ∃ q : Nat, m = (q : Int) ∧ q < 256 := by
                  cases m with
                  | ofNat q => exact ⟨q, rfl, (blt_iff _ _).1 hm6⟩
                  | negSucc q => cases hm6
                obtain ⟨q, rfl, hq⟩ := hnat
                rw [addr_add]
                have := f3 j (.int .u8 (q : Int)) (by rw [f4, List.getElem?_map, hm]; rfl)
                rw [this]
                congr 2
                simp
                omega
              have hrun := Lib.run_unsafeString_row (P := P) (w := w) ty it o.type e hu (by rw [← c4]; exact c3) cc cs.size (by rw [← c4]; exact hshape) bs (by intro hnil; rw [hnil] at hbl; exact hn0 hbl.symm) (by omega) (by omega) hcell
              rw [hbl] at hrun
              exact ⟨_, _, ρ, yld hrun, .string _, g1, g2⟩
        · cases hr
      · cases hr
    · cases hr
  · cases hr
end Go.Ev
namespace Go.Ev
variable [Opq]
variable {ox oy : Operand} {P : Program} {E : List (Nat × Ext)} {ρ : Map} {B nt : Nat} {h h' : AH} {w : World} {a : Act} {t : Tr Value} {o : Oper} {v : Value}
theorem bad_run {n : Nat} {r : R} (hne : ∀ k, r ≠ .fail k) (hr : COp.run P (.bad n) t h = r) : False := hne n (by rw [← hr]; rfl)
theorem okNe {v : Value} {h : AH} : ∀ k, R.ok v h ≠ .fail k := fun k e => by cases e
theorem Goal.of_eq (h2 : h' = h ∧ Goal P ρ B h w a o v h) : Goal P ρ B h w a o v h' := by obtain ⟨rfl, g⟩ := h2; exact g
theorem sizeT_some {e : TypeId} {n : Nat} (hs : sizeT P e = some n) : ∃ i, P.info? e = some i ∧ i.size = n := by
  unfold sizeT at hs
  cases hi : P.info? e with
  | none => rw [hi] at hs; cases hs
  | some i => rw [hi] at hs; simp only [Option.some.injEq] at hs; exact ⟨i, rfl, hs⟩
theorem zeroT_inv {e : TypeId} {z : List Value} (hz : zeroT P e = some z) : ∃ i v, P.info? e = some i ∧ i.zero = some v ∧ plainV 6 v = true ∧ z = valCells v := by
  unfold zeroT at hz
  cases hi : P.info? e with
  | none => rw [hi] at hz; cases hz
  | some i =>
    rw [hi] at hz
    simp only [] at hz
    cases hv : i.zero with
    | none => rw [hv] at hz; cases hz
    | some v =>
      rw [hv] at hz
      simp only [] at hz
      cases hp : plainV 6 v with
      | false => rw [hp] at hz; cases hz
      | true => rw [hp] at hz; simp only [cond_true, Option.some.injEq] at hz; exact ⟨i, v, rfl, hv, hp, hz.symm⟩
theorem plainKey_inv {kt : TypeId} (hk : plainKey P kt = true) {d : TypeDesc} (hd : P.underlying kt = some d) : (∃ k, d = .int k) ∨ d = .string := by
  unfold plainKey at hk
  rw [hd] at hk
  cases d <;> simp at hk
  · exact .inl ⟨_, rfl⟩
  · exact .inr rfl
theorem ok_convert {src dst : TypeId} {x : Operand} (ho : o.op = .convert src dst x) (hok : Oks o) (hh : HR P ρ B h w) (ht : TR ρ nt a.tmps t) (hr : COp.run P (cConvert P src dst x) t h = .ok v h') (hf : Fresh ρ h.next h'.next) : Goal P ρ B h w a o v h' := by
  unfold cConvert at hr
  split at hr
  · rename_i hs hd; exact snd_toInt ho hs hd hok hh ht hr
  · rename_i hs hd; exact snd_toFloat ho hs hd hok hh ht hr
  · rename_i hs hd; exact snd_fromFloat ho hs hd hok hh ht hr
  · rename_i e hs hd
    split at hr
    · rename_i he hsz; exact snd_toBytes ho hs hd he hsz hok hh ht hr hf
    · exact (bad_run okNe hr).elim
  · rename_i e hs hd
    split at hr
    · rename_i he; exact .of_eq (snd_toString ho hs hd he hok hh ht hr)
    · exact (bad_run okNe hr).elim
  · exact .of_eq (snd_ptrConv ho hok hh ht hr)
  · exact .of_eq (snd_ptrConv ho hok hh ht hr)
  · exact (bad_run okNe hr).elim
theorem ok_binOp {op : BinOp} {ty ty2 : TypeId} {x y : Operand} (ho : o.op = .binOp op ty x y ty2) (hok : Oks o) (hh : HR P ρ B h w) (ht : TR ρ nt a.tmps t) (hr : COp.run P (compOp P E o) t h = .ok v h') : Goal P ρ B h w a o v h' := by
  simp only [compOp, ho] at hr
  split at hr
  · rename_i fs hu
    cases hg : (P.eqGuardType P.depth ty || P.stoodInHeld ty) with
    | true => rw [hg] at hr; exact (bad_run okNe hr).elim
    | false =>
      rw [hg] at hr
      simp only [cond_false] at hr
      rw [Bool.or_eq_false_iff] at hg
      split at hr
      · rename_i ks hks; exact snd_eqAgg (neq := false) ho rfl hu hg.1 hg.2 hks hok hh ht hr
      · rename_i ks hks; exact snd_eqAgg (neq := true) ho rfl hu hg.1 hg.2 hks hok hh ht hr
      · exact (bad_run okNe hr).elim
  · rename_i k hu; exact opBin_ok (k := .num) ho ⟨_, hu⟩ hok hh ht hr
  · rename_i hu; exact opBin_ok (k := .str) ho hu hok hh ht hr
  · rename_i hu; exact opBin_ok (k := .bool) ho hu hok hh ht hr
  · rename_i e hu
    split at hr
    · exact (bad_run okNe hr).elim
    · rename_i n hne hs
      exact opBin_ok (k := .ptr) ho ⟨e, n, hu, hs, fun e0 => hne (by rw [← e0])⟩ hok hh ht hr
    · exact (bad_run okNe hr).elim
  · rename_i e hu; exact opBin_ok (k := .slice) ho ⟨e, hu⟩ hok hh ht hr
  · exact (bad_run okNe hr).elim
theorem ok_builtin {c : Call} {b : Builtin} (ho : o.op = .call c) (hc : c.callee = .builtin b) (hok : Oks o) (hh : HR P ρ B h w) (ht : TR ρ nt a.tmps t) (hr : COp.run P (cBuiltin P b c.args.toList c.argTypes.toList o.type) t h = .ok v h') (hf : Fresh ρ h.next h'.next) : Goal P ρ B h w a o v h' := by
  unfold cBuiltin at hr
  split at hr
  · rename_i x ty hargs htys
    split at hr
    · rename_i hu; exact .of_eq (snd_len ho hc hargs htys hu (.inl rfl) hok hh ht hr)
    · rename_i e hu; exact .of_eq (snd_len ho hc hargs htys hu (.inr (.inl ⟨e, rfl⟩)) hok hh ht hr)
    · rename_i k e hu; exact .of_eq (snd_len ho hc hargs htys hu (.inr (.inr ⟨k, e, rfl⟩)) hok hh ht hr)
    · exact (bad_run okNe hr).elim
  · rename_i x ty hargs htys
    split at hr
    · rename_i e hu; exact snd_cap ho hc hargs htys hu hok hh ht hr
    · exact (bad_run okNe hr).elim
  · rename_i x y ts tx hargs htys
    split at hr
    · rename_i e hu
      split at hr
      · rename_i i k hi hk
        split at hr
        · rename_i z hz
          obtain ⟨i', zv, hi', hzv, hp, rfl⟩ := zeroT_inv hz
          rw [hi] at hi'; injection hi' with hi'; subst hi'
          cases hl : Nat.beq (valCells zv).length i.size with
          | false => rw [hl] at hr; exact (bad_run okNe hr).elim
          | true =>
            rw [hl] at hr
            exact snd_append ho hc hargs htys hu hi hzv (Nat.eq_of_beq_eq_true hl) (.inr ⟨rfl, hp, k, hk⟩) hok hh ht hr hf
        · exact (bad_run okNe hr).elim
      · rename_i i e' hi hk
        split at hr
        · rename_i zv hzv
          cases hl : Nat.beq (valCells zv).length i.size with
          | false => rw [hl] at hr; exact (bad_run okNe hr).elim
          | true =>
            rw [hl] at hr
            exact snd_append ho hc hargs htys hu hi hzv (Nat.eq_of_beq_eq_true hl) (.inl ⟨rfl, .inl ⟨e', hk⟩⟩) hok hh ht hr hf
        · exact (bad_run okNe hr).elim
      · rename_i i hi hk
        split at hr
        · rename_i zv hzv
          cases hl : (Nat.beq (valCells zv).length i.size && Nat.beq i.size 1) with
          | false => rw [hl] at hr; exact (bad_run okNe hr).elim
          | true =>
            rw [hl] at hr
            rw [Bool.and_eq_true] at hl
            exact snd_append ho hc hargs htys hu hi hzv (Nat.eq_of_beq_eq_true hl.1) (.inl ⟨rfl, .inr hk⟩) hok hh ht hr hf
        · exact (bad_run okNe hr).elim
      · exact (bad_run okNe hr).elim
    · exact (bad_run okNe hr).elim
  · rename_i x y ty ts hargs htys
    split at hr
    · rename_i e hu
      split at hr
      · rename_i n hn; exact snd_copy ho hc hargs htys hu hn hok hh ht hr
      · exact (bad_run okNe hr).elim
    · exact (bad_run okNe hr).elim
  · exact snd_minmax (mn := true) ho hc hok hh ht hr
  · exact snd_minmax (mn := false) ho hc hok hh ht hr
  · rename_i x y hargs; exact snd_complex ho hc hargs hok hh ht hr
  · rename_i x hargs; exact snd_part (im := false) ho hc hargs hok hh ht hr
  · rename_i x hargs; exact snd_part (im := true) ho hc hargs hok hh ht hr
  · rename_i x y ty ty2 hargs htys
    split at hr
    · rename_i e hu; exact snd_unsafeString ho hc hargs htys hu hok hh ht hr
    · exact (bad_run okNe hr).elim
  · rename_i x hargs; exact snd_sliceData ho hc hargs hok hh ht hr
  · exact (bad_run okNe hr).elim
/-- what is no call of a function -/
theorem op_ok (hok : Oks o) (hh : HR P ρ B h w) (ht : TR ρ nt a.tmps t) (hr : COp.run P (compOp P E o) t h = .ok v h') (hx : ∀ e l, compOp P E o ≠ .ext e l) (hf : Fresh ρ h.next h'.next) : Goal P ρ B h w a o v h' := by
  cases ho : o.op with
  | move x => exact snd_move (.inl ho) hok hh ht hr
  | assign x => exact snd_move (.inr ho) hok hh ht hr
  | pick c x y => exact snd_pick ho hok hh ht hr
  | alloc e =>
    simp only [compOp, ho] at hr
    split at hr
    · rename_i i hi
      split at hr
      · rename_i z hz
        cases hp : plainV 6 z with
        | false => rw [hp] at hr; exact (bad_run okNe hr).elim
        | true => rw [hp] at hr; exact snd_alloc ho hi hz hp hh hr hf
      · exact (bad_run okNe hr).elim
    · exact (bad_run okNe hr).elim
  | box e x => simp only [compOp, ho] at hr; exact snd_box ho hok hh ht hr hf
  | build ty ps => exact snd_build ho hok hh ht hr
  | buildSlice ty len ps => exact snd_buildSlice ho hok hh ht hr hf
  | load ty x => exact .of_eq (snd_load ho hok hh ht hr)
  | store ty x y =>
    simp only [compOp, ho] at hr
    split at hr
    · rename_i n hn; exact snd_store ho hn hok hh ht hr
    · exact (bad_run okNe hr).elim
  | nilCheck x => exact snd_nilCheck ho hok hh ht hr
  | binOp op ty x y ty2 => exact ok_binOp ho hok hh ht hr
  | unOp op ty x => exact snd_unOp ho hok hh ht hr
  | convert s d x => simp only [compOp, ho] at hr; exact ok_convert ho hok hh ht hr hf
  | makeFunc fn first captured => exact snd_makeFunc ho hok hh ht hr
  | makeMap ty r =>
    cases r with
    | none => simp only [compOp, ho] at hr; exact snd_makeMap (t := t) ho hh hr hf
    | some x => simp only [compOp, ho] at hr; exact (bad_run okNe hr).elim
  | makeSlice ty l c =>
    simp only [compOp, ho] at hr
    split at hr
    · rename_i e hu
      split at hr
      · rename_i i z hi hz
        obtain ⟨i', zv, hi', hzv, hp, rfl⟩ := zeroT_inv hz
        rw [hi] at hi'; injection hi' with hi'; subst hi'
        cases hl : Nat.beq (valCells zv).length i.size with
        | false => rw [hl] at hr; exact (bad_run okNe hr).elim
        | true => rw [hl] at hr; exact snd_makeSlice ho hu hi hzv hp (Nat.eq_of_beq_eq_true hl) hok hh ht hr hf
      · exact (bad_run okNe hr).elim
    · exact (bad_run okNe hr).elim
  | slice ty x lo hi mx =>
    simp only [compOp, ho] at hr
    split at hr
    · rename_i hu
      split at hr
      · exact snd_sliceStr ho hu hok hh ht hr
      · exact (bad_run okNe hr).elim
    · rename_i e hu
      split at hr
      · exact (bad_run okNe hr).elim
      · rename_i hi' mx' _ _ _ n hn hne
        exact snd_slice ho hu hn (fun h1 h2 => by
          cases mx' with
          | none => exact h1 rfl
          | some m => exact hne m h2 rfl) hok hh ht hr
      · exact (bad_run okNe hr).elim
    · exact (bad_run okNe hr).elim
  | fieldAddr ty x i => exact snd_fieldAddr ho hok hh ht hr
  | field ty x i => exact snd_field ho hok hh ht hr
  | indexAddr ty x i => exact snd_indexAddr ho hok hh ht hr
  | index ty x i => exact snd_indexStr ho hok hh ht hr
  | lookup ty x k ok =>
    simp only [compOp, ho] at hr
    split at hr
    · rename_i kt e hu
      split at hr
      · rename_i i hi
        split at hr
        · rename_i z hz
          cases hp : (plainV 6 z && plainKey P kt) with
          | false => rw [hp] at hr; exact (bad_run okNe hr).elim
          | true =>
            rw [hp] at hr
            rw [Bool.and_eq_true] at hp
            simp only [cond_true] at hr
            split at hr
            · rename_i d hd; exact .of_eq (snd_lookup ho hu hi hz hp.1 hd (plainKey_inv hp.2 hd) hok hh ht hr)
            · exact (bad_run okNe hr).elim
        · exact (bad_run okNe hr).elim
      · exact (bad_run okNe hr).elim
    · exact (bad_run okNe hr).elim
  | mapUpdate ty m k x =>
    simp only [compOp, ho] at hr
    split at hr
    · rename_i kt e hu
      cases hp : plainKey P kt with
      | false => rw [hp] at hr; exact (bad_run okNe hr).elim
      | true =>
        rw [hp] at hr
        simp only [Bool.not_true, cond_false] at hr
        split at hr
        · rename_i d hd; exact snd_mapUpdate ho hu hd (plainKey_inv hp hd) hok hh ht hr
        · exact (bad_run okNe hr).elim
    · exact (bad_run okNe hr).elim
  | extract x i => exact snd_extract ho hok hh ht hr
  | call c =>
    simp only [compOp, ho] at hr hx
    unfold cCall at hr hx
    split at hr
    · rename_i b hc; exact ok_builtin ho hc hok hh ht hr hf
    · exact (bad_run okNe hr).elim
    · rename_i f hc
      split at hr
      · rename_i e he
        simp only [hc, he] at hx
        exact absurd rfl (hx _ _)
      · split at hr
        · split at hr
          · cases hr
          · exact (bad_run okNe hr).elim
        · exact (bad_run okNe hr).elim
    · rename_i f hne hc
      change opCallV _ _ _ _ = _ at hr
      unfold opCallV at hr
      split at hr <;> cases hr
  | _ => simp only [compOp, ho] at hr; exact (bad_run okNe hr).elim
end Go.Ev
