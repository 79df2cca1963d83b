/- Shown: a number, a heap, operations: the evaluator. No condition. -/
import GoSem.Step
import Derived.KernelRfl
set_option linter.unusedVariables false
set_option linter.unusedSimpArgs false
set_option linter.unusedSectionVars false
namespace Go.Ev
/-! tries -/
inductive Tr (α : Type) where
  | nil
  | node (v : Option α) (l r : Tr α)
noncomputable def pathF : Nat → Nat → List Bool := Nat.rec (fun _ => []) (fun _ ih k => Nat.rec [] (fun j _ => Nat.beq (Nat.mod j 2) 0 :: ih (Nat.div j 2)) k)
noncomputable def path (k : Nat) : List Bool := pathF (Nat.succ k) k
noncomputable def Tr.get {α : Type} (t : Tr α) : List Bool → Option α :=
  Tr.rec (motive := fun _ => List Bool → Option α) (fun _ => none) (fun v _ _ gl gr p => List.rec (motive := fun _ => Option α) v (fun b p' _ => Bool.rec (gr p') (gl p') b) p) t
noncomputable def Tr.set {α : Type} (p : List Bool) : α → Tr α → Tr α :=
  List.rec (motive := fun _ => α → Tr α → Tr α)
    (fun x t => Tr.rec (motive := fun _ => Tr α) (.node (some x) .nil .nil) (fun _ l r _ _ => .node (some x) l r) t)
    (fun b _ ih x t => Tr.rec (motive := fun _ => Tr α) (Bool.rec (.node none .nil (ih x .nil)) (.node none (ih x .nil) .nil) b)
      (fun v l r _ _ => Bool.rec (.node v l (ih x r)) (.node v (ih x l) r) b) t) p
noncomputable def Tr.putAll {α : Type} (l : List α) : Nat → Tr α → Tr α :=
  List.rec (motive := fun _ => Nat → Tr α → Tr α) (fun _ t => t) (fun x _ ih i t => ih (Nat.succ i) (Tr.set (path i) x t)) l
/-! the heap -/
structure Blk where
  cs : Tr Value
  d : Value
  size : Nat
  elem : TypeId
  exact : Bool
  fam : Nat
  froz : Nat
  mark : Bool
inductive AObj where
  | cells (b : Blk)
  | map (es : List MapEntry) (clock : Nat)
  | loop (nt : Nat) (tmps : Tr Value) (params : List Nat) (assign body : Code) (state : LoopState) (pending : Option Code)
  | dead
structure AH where
  blocks : Tr AObj
  next : Nat
  fams : Tr (Nat × List Nat)   -- of a family: no member is longer than this; its members
def AH.empty : AH := ⟨.nil, 1, .nil⟩
noncomputable def AH.blk (h : AH) (b : Nat) : Option Blk :=
  match Tr.get h.blocks (path b) with
  | some (.cells B) => some B
  | _ => none
noncomputable def Blk.cell (B : Blk) (o : Nat) : Option Value :=
  bif Nat.blt o B.size then some (match Tr.get B.cs (path o) with | some v => v | none => B.d) else none
noncomputable def AH.cell (h : AH) (b o : Nat) : Option Value :=
  match h.blk b with
  | some B => B.cell o
  | none => none
noncomputable def Blk.cellsOf (B : Blk) : Nat → Nat → Option (List Value) :=
  Nat.rec (fun _ => some []) (fun _ ih o => match B.cell o with
    | none => none
    | some v => match ih (Nat.succ o) with
      | none => none
      | some l => some (v :: l))
noncomputable def AH.cellsOf (h : AH) (b o n : Nat) : Option (List Value) :=
  match n with
  | 0 => some []
  | _ => match h.blk b with
    | some B => B.cellsOf n o
    | none => none
/-- all of a family but `b` that reach beyond `off` are dead from now on -/
noncomputable def killL (b off : Nat) (l : List Nat) : Tr AObj → Tr AObj :=
  List.rec (motive := fun _ => Tr AObj → Tr AObj) (fun t => t) (fun i _ ih t =>
    bif Nat.beq i b then ih t else match Tr.get t (path i) with
      | some (.cells B) => bif Nat.blt off B.size then ih (Tr.set (path i) .dead t) else ih t
      | _ => ih t) l
/-- all of a family but `b` are dead from now on -/
noncomputable def killA (b : Nat) (l : List Nat) : Tr AObj → Tr AObj :=
  List.rec (motive := fun _ => Tr AObj → Tr AObj) (fun t => t) (fun i _ ih t =>
    bif Nat.beq i b then ih t else match Tr.get t (path i) with
      | some (.cells _) => ih (Tr.set (path i) .dead t)
      | _ => ih t) l
noncomputable def AH.fam (h : AH) (f : Nat) : List Nat := match Tr.get h.fams (path f) with | some l => l.2 | none => []
noncomputable def AH.top (h : AH) (f : Nat) : Nat := match Tr.get h.fams (path f) with | some l => l.1 | none => 0
noncomputable def kill (h : AH) (f b off : Nat) : Tr AObj :=
  match h.fam f with
  | [] => h.blocks
  | i :: l => match l with
    | [] => bif Nat.beq i b then h.blocks else killL b off [i] h.blocks
    | _ => killL b off (i :: l) h.blocks
noncomputable def oneC (v : Value) : Bool := match v with | .agg _ => false | .tuple _ => false | _ => true
noncomputable def AH.storeAll (h : AH) (b o : Nat) (l : List Value) : Option AH :=
  match h.blk b with
  | none => none
  | some B =>
    bif Nat.ble (o + l.length) B.size && (Nat.ble B.froz o && l.all oneC) then
      some ⟨Tr.set (path b) (.cells { B with cs := Tr.putAll l o B.cs }) (kill h B.fam b o), h.next, h.fams⟩
    else none
noncomputable def AH.new (h : AH) (cs : Tr Value) (d : Value) (size : Nat) (elem : TypeId) (exact mark : Bool) : AH :=
  ⟨Tr.set (path h.next) (.cells ⟨cs, d, size, elem, exact, h.next, 0, mark⟩) h.blocks, Nat.succ h.next, Tr.set (path h.next) (size, [h.next]) h.fams⟩
noncomputable def AH.newObj (h : AH) (o : AObj) : AH := ⟨Tr.set (path h.next) o h.blocks, Nat.succ h.next, h.fams⟩
def undefV : Value := .tuple #[]
/-- without addresses -/
noncomputable def plainV : Nat → Value → Bool :=
  Nat.rec (fun _ => false) (fun _ ih v => match v with
    | .bool _ => true | .int _ _ => true | .float _ _ => true | .complex _ _ _ => true | .string _ => true
    | .pointer none => true | .slice none _ _ => true | .map none => true | .nilFunc => true | .nilIface => true
    | .func (.func _) ⟨[]⟩ ⟨[]⟩ => true
    | .agg l => l.toList.all ih
    | .tuple l => l.toList.all ih
    | _ => false)
/-! operands and operations -/
inductive Src where
  | t (p : List Bool)
  | c (v : Value)
noncomputable def Src.ev (x : Src) (t : Tr Value) : Value :=
  Src.rec (fun p => match Tr.get t p with | some v => v | none => undefV) (fun v => v) x
inductive R where
  | ok (v : Value) (h : AH)
  | call (f : FuncId) (args : List Value) (h : AH)
  | yield (l : Nat) (args : List Value) (h : AH)
  | fail (n : Nat)
inductive Ext where
  | indexByte | noEscape
  | known (args : List Value) (v : Value)
inductive FK where
  | int | bool | str
inductive BK where
  | num | str | bool | ptr | slice
inductive COp where
  | mv (x : Src)
  | pick (c a b : Src)
  | box (elem : TypeId) (x : Src)
  | build (zero : List Value) (parts : List (Nat × Nat × Src))
  | buildSlice (elem : TypeId) (len : Nat) (zero : List Value) (parts : List (Nat × Nat × Src))
  | load1 (x : Src)
  | loadN (n : Nat) (x : Src)
  | store (n : Nat) (x y : Src)
  | nilCheck (x : Src)
  | bin (k : BK) (op : BinOp) (x y : Src)
  | eqAgg (ks : List FK) (neq : Bool) (x y : Src)
  | un (op : UnOp) (x : Src)
  | toInt (k : IntKind) (x : Src)
  | toFloat (k : FloatKind) (x : Src)
  | fromFloat (k : IntKind) (x : Src)
  | toString (x : Src)
  | toBytes (elem : TypeId) (x : Src)
  | ptrConv (src dst : TypeId) (x : Src)
  | makeFunc (fn : Fn) (first captured : List Src)
  | makeMap
  | makeSlice (elem : TypeId) (size : Nat) (bytes : Nat) (zero : List Value) (l c : Src)
  | slice (size : Nat) (x : Src) (lo hi mx : Option Src)
  | sliceStr (x : Src) (lo hi : Option Src)
  | offAddr (off : Nat) (x : Src)
  | sub (off size : Nat) (agg : Bool) (x : Src)
  | indexStr (x i : Src)
  | indexSlice (size : Nat) (x i : Src)
  | indexArr (len size : Nat) (x i : Src)
  | lookup (d : TypeDesc) (zero : Value) (x k : Src) (ok : Bool)
  | mapUpdate (d : TypeDesc) (m k x : Src)
  | extract (x : Src) (i : Nat)
  | append (elem : TypeId) (size bytes : Nat) (zero : Option (List Value)) (x y : Src)
  | len (d : TypeDesc) (x : Src)
  | cap (x : Src)
  | copy (size : Nat) (x y : Src)
  | minmax (mn : Bool) (l : List Src)
  | complex (x y : Src)
  | part (im : Bool) (x : Src)
  | unsafeString (elem : TypeId) (x n : Src)
  | sliceData (x : Src)
  | callS (f : FuncId) (args : List Src)
  | callV (f : Src) (args : List Src)
  | ext (e : Ext) (args : List Src)
  | bad (n : Nat)
noncomputable def evs (l : List Src) (t : Tr Value) : List Value := List.rec (motive := fun _ => List Value) [] (fun x _ ih => x.ev t :: ih) l
/-! numbers -/
noncomputable def fits (k : IntKind) (n : Int) : Bool :=
  IntKind.rec (motive := fun _ => Bool)
    (Int.rec (fun m => Nat.blt m 128) (fun m => Nat.blt m 128) n) (Int.rec (fun m => Nat.blt m 32768) (fun m => Nat.blt m 32768) n)
    (Int.rec (fun m => Nat.blt m 2147483648) (fun m => Nat.blt m 2147483648) n) (Int.rec (fun m => Nat.blt m 9223372036854775808) (fun m => Nat.blt m 9223372036854775808) n)
    (Int.rec (fun m => Nat.blt m 256) (fun _ => false) n) (Int.rec (fun m => Nat.blt m 65536) (fun _ => false) n)
    (Int.rec (fun m => Nat.blt m 4294967296) (fun _ => false) n) (Int.rec (fun m => Nat.blt m 18446744073709551616) (fun _ => false) n) k
noncomputable def wrapF (k : IntKind) (n : Int) : Int := bif fits k n then n else k.wrap n
noncomputable def ltI (a b : Int) : Bool := Int.rec (fun m => Int.rec (fun n => Nat.blt m n) (fun _ => false) b) (fun m => Int.rec (fun _ => true) (fun n => Nat.blt n m) b) a
noncomputable def eqI (a b : Int) : Bool := Int.rec (fun m => Int.rec (fun n => Nat.beq m n) (fun _ => false) b) (fun m => Int.rec (fun _ => false) (fun n => Nat.beq m n) b) a
noncomputable def eqK (a b : IntKind) : Bool := IntKind.rec (motive := fun _ => Bool)
  (IntKind.rec true false false false false false false false b) (IntKind.rec false true false false false false false false b) (IntKind.rec false false true false false false false false b)
  (IntKind.rec false false false true false false false false b) (IntKind.rec false false false false true false false false b) (IntKind.rec false false false false false true false false b)
  (IntKind.rec false false false false false false true false b) (IntKind.rec false false false false false false false true b) a
noncomputable def bitsSlow (op : BinOp) (k : IntKind) (a b : Int) : Option Value :=
  match op with
  | .and => some (.int k (k.wrap (BitVec.ofInt k.bits a &&& BitVec.ofInt k.bits b).toNat))
  | .or => some (.int k (k.wrap (BitVec.ofInt k.bits a ||| BitVec.ofInt k.bits b).toNat))
  | .xor => some (.int k (k.wrap (BitVec.ofInt k.bits a ^^^ BitVec.ofInt k.bits b).toNat))
  | .andNot => some (.int k (k.wrap (BitVec.ofInt k.bits a &&& ~~~(BitVec.ofInt k.bits b)).toNat))
  | _ => none
noncomputable def bits2 (f : Nat → Nat → Nat) (op : BinOp) (k : IntKind) (a b : Int) : Option Value :=
  match a with
  | .ofNat m => match b with
    | .ofNat n => bif fits k (.ofNat m) && fits k (.ofNat n) then some (.int k (.ofNat (f m n))) else bitsSlow op k (.ofNat m) (.ofNat n)
    | .negSucc n => bitsSlow op k (.ofNat m) (.negSucc n)
  | .negSucc m => bitsSlow op k (.negSucc m) b
noncomputable def shiftF (l : Bool) (k : IntKind) (a b : Int) : Option Value :=
  match b with
  | .negSucc _ => none
  | .ofNat n =>
    let n := min n k.bits
    bif l then some (.int k (wrapF k (Int.mul a (.ofNat (Nat.pow 2 n))))) else some (.int k (Int.fdiv a (.ofNat (Nat.pow 2 n))))
noncomputable def quoF (k : IntKind) (a b : Int) : Option Value := bif eqI b 0 then none else some (.int k (wrapF k (Int.tdiv a b)))
noncomputable def remF (k : IntKind) (a b : Int) : Option Value := bif eqI b 0 then none else some (.int k (Int.tmod a b))
noncomputable def intBin (op : BinOp) (k : IntKind) (a b : Int) : Option Value :=
  BinOp.rec (motive := fun _ => Option Value)
    (some (.int k (wrapF k (Int.add a b)))) (some (.int k (wrapF k (Int.sub a b)))) (some (.int k (wrapF k (Int.mul a b))))
    (quoF k a b) (remF k a b) (bits2 Nat.land .and k a b) (bits2 Nat.lor .or k a b) (bits2 Nat.xor .xor k a b) none none (bitsSlow .andNot k a b)
    (some (.bool (eqI a b))) (some (.bool (!(eqI a b)))) (some (.bool (ltI a b))) (some (.bool (!(ltI b a)))) (some (.bool (ltI b a))) (some (.bool (!(ltI a b)))) op
noncomputable def eqBytes (a : List UInt8) : List UInt8 → Bool :=
  List.rec (motive := fun _ => List UInt8 → Bool) (fun b => List.rec true (fun _ _ _ => false) b)
    (fun x _ ih b => List.rec (motive := fun _ => Bool) false (fun y b' _ => bif Nat.beq x.toNat y.toNat then ih b' else false) b) a
noncomputable def strBin (op : BinOp) (a b : ByteArray) : Option Value :=
  match op with
  | .add => bif Nat.ble (a.data.toList.length + b.data.toList.length) 1099511627776 then some (.string ⟨⟨a.data.toList ++ b.data.toList⟩⟩) else none
  | .eql => some (.bool (eqBytes a.data.toList b.data.toList))
  | .neq => some (.bool (!(eqBytes a.data.toList b.data.toList)))
  | _ => none
noncomputable def isShift (op : BinOp) : Option Bool := match op with | .shl => some true | .shr => some false | _ => none
noncomputable def binNum (op : BinOp) (x y : Value) : Option Value :=
  match x, y with
  | .int k a, .int k' b =>
    match isShift op with
    | some l => shiftF l k a b
    | none => bif eqK k k' then intBin op k a b else none
  | _, _ => none
noncomputable def eqRes (op : BinOp) (b : Bool) : Option Value := match op with | .eql => some (.bool b) | .neq => some (.bool (!b)) | _ => none
noncomputable def binStr (op : BinOp) (x y : Value) : Option Value := match x, y with | .string a, .string b => strBin op a b | _, _ => none
noncomputable def binBool (op : BinOp) (x y : Value) : Option Value := match x, y with | .bool a, .bool b => eqRes op (a == b) | _, _ => none
noncomputable def binPtr (op : BinOp) (x y : Value) : Option Value :=
  match x, y with
  | .pointer none, .pointer b => eqRes op b.isNone
  | .pointer (some _), .pointer none => eqRes op false
  | .pointer (some a), .pointer (some b) => bif Nat.beq a.block b.block && Nat.beq a.off b.off then eqRes op true else none
  | _, _ => none
noncomputable def binSlice (op : BinOp) (x y : Value) : Option Value :=
  match x, y with
  | .slice none _ _, .slice b _ _ => eqRes op b.isNone
  | .slice (some _) _ _, .slice none _ _ => eqRes op false
  | _, _ => none
noncomputable def binK (k : BK) (op : BinOp) (x y : Value) : Option Value :=
  BK.rec (motive := fun _ => BinOp → Value → Value → Option Value) binNum binStr binBool binPtr binSlice k op x y
/-! numbers of which the bounds alone are known: '.iface i (.tuple #[.int k lo, .int k hi, e])', e what it is made of: '.chan (some i)' the i-th unknown, '.iface (2 * c) e' e & c, '.iface (2 * c + 1) e' e ^ c -/
noncomputable def spanOf (v : Value) : Option (IntKind × Int × Int) := match v with
  | .int k n => some (k, n, n)
  | .iface _ (.tuple ⟨[.int k lo, .int _ hi, _]⟩) => some (k, lo, hi)
  | _ => none
noncomputable def idOf (v : Value) : Option Value := match v with | .iface _ (.tuple ⟨[_, _, e]⟩) => some e | _ => none
noncomputable def eqX (a : Value) : Value → Bool :=
  Value.rec (motive_1 := fun _ => Value → Bool) (motive_2 := fun _ => Unit) (motive_3 := fun _ => Unit)
    (fun _ _ => false) (fun _ _ _ => false) (fun _ _ _ => false) (fun _ _ _ _ => false) (fun _ _ => false) (fun _ _ => false) (fun _ _ _ _ => false) (fun _ _ => false)
    (fun r b => match r, b with | some i, .chan (some j) => Nat.beq i j | _, _ => false)
    (fun _ _ _ _ _ _ => false) (fun _ => false)
    (fun i _ ih b => match b with | .iface j y => Nat.beq i j && ih y | _ => false)
    (fun _ => false) (fun _ _ _ => false) (fun _ _ _ => false) (fun _ _ => ()) () (fun _ _ _ _ => ()) a
noncomputable def sameId (x y : Value) : Bool := match idOf x, idOf y with | some i, some j => eqX i j | _, _ => false
noncomputable def symBin (op : BinOp) (x y : Value) : Option Value :=
  match x, y with
  | .iface i (.tuple ⟨[.int k lo, .int _ hi, e]⟩), .int k' (.ofNat c) => bif eqK k .i64 && eqK k' .i64 then
      match op with
      | .and => bif Nat.blt c 9223372036854775808 then some (.iface i (.tuple ⟨[.int .i64 0, .int .i64 (.ofNat c), .iface (2 * c) e]⟩)) else none
      | .xor => bif !(ltI lo 0) && (!(ltI 4294967295 hi) && Nat.ble c 4294967295) then some (.iface i (.tuple ⟨[.int .i64 0, .int .i64 (.ofNat 4294967295), .iface (2 * c + 1) e]⟩)) else none
      | _ => none
    else none
  | _, _ => none
noncomputable def spanLt (a b c d : Int) : Option Bool := bif ltI b c then some true else bif ltI a d then none else some false
noncomputable def opqCmp (op : BinOp) (x y : Value) : Option Bool :=
  match spanOf x, spanOf y with
  | some (j, a, b), some (k, c, d) => bif eqK j k then
      match op with
      | .lss => spanLt a b c d
      | .gtr => spanLt c d a b
      | .leq => (spanLt c d a b).map not
      | .geq => (spanLt a b c d).map not
      | .eql => bif sameId x y then some true else bif ltI b c || ltI d a then some false else none
      | .neq => bif sameId x y then some false else bif ltI b c || ltI d a then some true else none
      | _ => none
    else none
  | _, _ => none
noncomputable def opBin (k : BK) (op : BinOp) (x y : Src) (t : Tr Value) (h : AH) : R :=
  match binK k op (x.ev t) (y.ev t) with
  | some v => .ok v h
  | none => match k with
    | .num => (match opqCmp op (x.ev t) (y.ev t) with
      | some b => .ok (.bool b) h
      | none => match symBin op (x.ev t) (y.ev t) with
        | some v => .ok v h
        | none => .fail 1)
    | _ => .fail 1
/-- are two lists of plain values the same? -/
noncomputable def eqVals (ks : List FK) : List Value → List Value → Option Bool :=
  List.rec (motive := fun _ => List Value → List Value → Option Bool) (fun a b => match a, b with | [], [] => some true | _, _ => none)
    (fun k _ ih a b => match a, b with
      | x :: a', y :: b' => match k, x, y with
        | .int, .int k m, .int k' n => bif eqK k k' then (bif eqI m n then ih a' b' else some false) else none
        | .bool, .bool m, .bool n => bif m == n then ih a' b' else some false
        | .str, .string m, .string n => bif eqBytes m.data.toList n.data.toList then ih a' b' else some false
        | _, _, _ => none
      | _, _ => none) ks
noncomputable def opEqAgg (ks : List FK) (neq : Bool) (x y : Src) (t : Tr Value) (h : AH) : R :=
  match x.ev t, y.ev t with
  | .agg a, .agg b => match eqVals ks a.toList b.toList with | some r => .ok (.bool (bif neq then !r else r)) h | none => .fail 13
  | _, _ => .fail 14
noncomputable def opMv (x : Src) (t : Tr Value) (h : AH) : R := .ok (x.ev t) h
noncomputable def opPick (c a b : Src) (t : Tr Value) (h : AH) : R :=
  match c.ev t with
  | .bool c => .ok (bif c then a.ev t else b.ev t) h
  | _ => .fail 15
noncomputable def valCells (v : Value) : List Value := match v with | .agg cs => cs.toList | v => [v]
noncomputable def opBox (elem : TypeId) (x : Src) (t : Tr Value) (h : AH) : R :=
  let l := valCells (x.ev t)
  .ok (.pointer (some ⟨h.next, 0, none⟩)) (h.new (Tr.putAll l 0 .nil) undefV l.length elem true false)
noncomputable def fillL (parts : List (Nat × Nat × Src)) (t : Tr Value) : List Value → Option (List Value) :=
  List.rec (motive := fun _ => List Value → Option (List Value)) (fun l => some l)
    (fun p _ ih l => match valCells (p.2.2.ev t) with
      | cs => bif Nat.beq cs.length p.2.1 && Nat.ble (p.1 + p.2.1) l.length then ih (l.take p.1 ++ (cs ++ l.drop (p.1 + p.2.1))) else none) parts
noncomputable def opBuild (zero : List Value) (parts : List (Nat × Nat × Src)) (t : Tr Value) (h : AH) : R :=
  match fillL parts t zero with
  | some l => .ok (.agg ⟨l⟩) h
  | none => .fail 16
noncomputable def opBuildSlice (elem : TypeId) (len : Nat) (zero : List Value) (parts : List (Nat × Nat × Src)) (t : Tr Value) (h : AH) : R :=
  match fillL parts t zero with
  | some l => .ok (.slice (some ⟨h.next, 0, none⟩) len len) (h.new (Tr.putAll l 0 .nil) undefV l.length elem true false)
  | none => .fail 17
noncomputable def opLoad1 (x : Src) (t : Tr Value) (h : AH) : R :=
  match x.ev t with
  | .pointer (some a) => match h.cell a.block a.off with | some v => .ok v h | none => .fail 18
  | _ => .fail 19
noncomputable def opLoadN (n : Nat) (x : Src) (t : Tr Value) (h : AH) : R :=
  match x.ev t with
  | .pointer (some a) => match h.cellsOf a.block a.off n with | some l => .ok (.agg ⟨l⟩) h | none => .fail 20
  | _ => .fail 21
noncomputable def opStore (n : Nat) (x y : Src) (t : Tr Value) (h : AH) : R :=
  match x.ev t with
  | .pointer (some a) => match valCells (y.ev t) with
    | l => bif Nat.beq l.length n then (match h.storeAll a.block a.off l with | some h => .ok undefV h | none => .fail 22) else .fail 23
  | _ => .fail 24
noncomputable def opNilCheck (x : Src) (t : Tr Value) (h : AH) : R :=
  match x.ev t with
  | .pointer (some a) => .ok (.pointer (some a)) h
  | _ => .fail 25
noncomputable def opUn (op : UnOp) (x : Src) (t : Tr Value) (h : AH) : R :=
  match op, x.ev t with
  | .not, .bool b => .ok (.bool (!b)) h
  | .neg, .int k n => .ok (.int k (wrapF k (Int.neg n))) h
  | _, _ => .fail 26
noncomputable def opToInt (k : IntKind) (x : Src) (t : Tr Value) (h : AH) : R :=
  match x.ev t with
  | .int _ n => .ok (.int k (wrapF k n)) h
  | .iface i (.tuple ⟨[.int j lo, .int j' hi, e]⟩) => bif eqK j k && (eqK j' k && (fits k lo && fits k hi)) then .ok (.iface i (.tuple ⟨[.int j lo, .int j' hi, e]⟩)) h else .fail 27
  | _ => .fail 27
noncomputable def opToFloat (k : FloatKind) (x : Src) (t : Tr Value) (h : AH) : R :=
  match x.ev t with | .int _ n => .ok (.float k (k.nearest n)) h | _ => .fail 28
noncomputable def opFromFloat (k : IntKind) (x : Src) (t : Tr Value) (h : AH) : R :=
  match x.ev t with
  | .float s b => match (s.decode b).toInt .zero with
    | some n => if k.min ≤ n ∧ n ≤ k.max then .ok (.int k n) h else .fail 29
    | none => .fail 30
  | _ => .fail 31
noncomputable def bytesOf (l : List Value) : Option (List UInt8) :=
  List.rec (motive := fun _ => Option (List UInt8)) (some []) (fun v _ ih => match v with
    | .int .u8 n => match ih with | some r => some (UInt8.ofNat n.toNat :: r) | none => none
    | _ => none) l
noncomputable def opToString (x : Src) (t : Tr Value) (h : AH) : R :=
  match x.ev t with
  | .slice none _ _ => .ok (.string .empty) h
  | .slice (some a) n _ => match h.cellsOf a.block a.off n with
    | some l => match bytesOf l with | some b => .ok (.string ⟨⟨b⟩⟩) h | none => .fail 32
    | none => .fail 33
  | _ => .fail 34
noncomputable def byteVals (l : List UInt8) : List Value := l.map fun c => .int .u8 c.toNat
noncomputable def opToBytes (elem : TypeId) (x : Src) (t : Tr Value) (h : AH) : R :=
  match x.ev t with
  | .string s => .ok (.slice (some ⟨h.next, 0, some 0⟩) s.data.toList.length s.data.toList.length) (h.new (Tr.putAll (byteVals s.data.toList) 0 .nil) undefV s.data.toList.length elem false true)
  | _ => .fail 35
noncomputable def opPtrConv (P : Program) (src dst : TypeId) (x : Src) (t : Tr Value) (h : AH) : R :=
  match P.underlying src, P.underlying dst, x.ev t with
  | some (.pointer e), some .unsafePointer, .pointer (some a) => match h.blk a.block with
    | some B => bif B.exact && (Nat.blt a.off B.size && !(Nat.beq (P.cellsOf e) 0)) then .ok (.pointer (some a)) h else .fail 36
    | none => .fail 37
  | some .unsafePointer, some (.pointer u), .pointer (some a) => match h.blk a.block with
    | some B => bif B.exact && (Nat.blt a.off B.size && ((P.info? u).isSome && liesAt P P.depth B.elem (B.size / P.cellsOf B.elem) a.off u 1)) then .ok (.pointer (some a)) h else .fail 38
    | none => .fail 39
  | _, _, _ => .fail 40
noncomputable def opMakeFunc (fn : Fn) (first captured : List Src) (t : Tr Value) (h : AH) : R := .ok (.func fn ⟨evs first t⟩ ⟨evs captured t⟩) h
noncomputable def opMakeMap (_t : Tr Value) (h : AH) : R := .ok (.map (some h.next)) (h.newObj (.map [] 0))
noncomputable def repL (n : Nat) (z : List Value) : List Value := Nat.rec [] (fun _ ih => z ++ ih) n
noncomputable def opMakeSlice (elem : TypeId) (size bytes : Nat) (zero : List Value) (l c : Src) (t : Tr Value) (h : AH) : R :=
  match l.ev t, c.ev t with
  | .int _ (.ofNat l), .int _ (.ofNat c) =>
    bif Nat.ble l c && Nat.ble (c * bytes) 1099511627776 && Nat.ble c 1099511627776 then
      match zero with
      | [z] => .ok (.slice (some ⟨h.next, 0, none⟩) l c) (h.new .nil z c elem true false)
      | _ => .ok (.slice (some ⟨h.next, 0, none⟩) l c) (h.new (Tr.putAll (repL c zero) 0 .nil) undefV (c * size) elem true false)
    else .fail 41
  | _, _ => .fail 42
noncomputable def natOr (x : Option Src) (t : Tr Value) (d : Nat) : Option Nat :=
  match x with
  | none => some d
  | some x => match x.ev t with | .int _ (.ofNat n) => some n | _ => none
noncomputable def opSlice (size : Nat) (x : Src) (lo hi mx : Option Src) (t : Tr Value) (h : AH) : R :=
  match x.ev t with
  | .slice a len cap =>
    match natOr lo t 0, natOr hi t len, natOr mx t cap with
    | some l, some u, some m =>
      bif Nat.ble l u && (Nat.ble u m && Nat.ble m cap) then
        match a with
        | none => .ok (.slice none (u - l) (m - l)) h
        | some a => match a.spot with
          | none => .ok (.slice (some (bif Nat.beq m l then ⟨a.block, a.off, none⟩ else ⟨a.block, a.off + l * size, none⟩)) (u - l) (m - l)) h
          | some 0 => match mx with
            | none => bif Nat.beq l 0 || Nat.blt l cap then .ok (.slice (some ⟨a.block, a.off + l * size, some 0⟩) (u - l) (m - l)) h else .ok (.slice (some ⟨a.block, a.off, some 1⟩) 0 0) h
            | some _ => .ok (.slice (some (bif Nat.beq m l then ⟨a.block, a.off, none⟩ else ⟨a.block, a.off + l * size, none⟩)) (u - l) (m - l)) h
          | some (Nat.succ i) => match mx with
            | none => .ok (.slice (some ⟨a.block, a.off, some (Nat.succ i)⟩) 0 0) h
            | some _ => .fail 43
      else .fail 43
    | _, _, _ => .fail 44
  | _ => .fail 45
noncomputable def opSliceStr (x : Src) (lo hi : Option Src) (t : Tr Value) (h : AH) : R :=
  match x.ev t with
  | .string s =>
    match natOr lo t 0, natOr hi t s.data.toList.length with
    | some l, some u => bif Nat.ble l u && Nat.ble u s.data.toList.length then .ok (.string ⟨⟨(s.data.toList.drop l).take (u - l)⟩⟩) h else .fail 46
    | _, _ => .fail 47
  | _ => .fail 48
noncomputable def opOffAddr (off : Nat) (x : Src) (t : Tr Value) (h : AH) : R :=
  match x.ev t with
  | .pointer (some a) => .ok (.pointer (some ⟨a.block, a.off + off, none⟩)) h
  | _ => .fail 49
noncomputable def opSub (off size : Nat) (agg : Bool) (x : Src) (t : Tr Value) (h : AH) : R :=
  match x.ev t with
  | .agg cs => bif agg then .ok (.agg ⟨(cs.toList.drop off).take size⟩) h else (match cs.toList.drop off with | v :: _ => .ok v h | [] => .fail 50)
  | _ => .fail 51
noncomputable def opIndexStr (x i : Src) (t : Tr Value) (h : AH) : R :=
  match x.ev t, i.ev t with
  | .string s, .int _ (.ofNat i) => match s.data.toList.drop i with
    | b :: _ => .ok (.int .u8 b.toNat) h
    | [] => .fail 52
  | _, _ => .fail 53
noncomputable def opIndexSlice (size : Nat) (x i : Src) (t : Tr Value) (h : AH) : R :=
  match x.ev t, i.ev t with
  | .slice (some a) len _, .int _ (.ofNat i) => bif Nat.blt i len then .ok (.pointer (some ⟨a.block, a.off + i * size, none⟩)) h else .fail 54
  | _, _ => .fail 55
noncomputable def opIndexArr (len size : Nat) (x i : Src) (t : Tr Value) (h : AH) : R :=
  match x.ev t, i.ev t with
  | .pointer (some a), .int _ (.ofNat i) => bif Nat.blt i len then .ok (.pointer (some ⟨a.block, a.off + i * size, none⟩)) h else .fail 56
  | _, _ => .fail 57
noncomputable def eqKey (d : TypeDesc) (a b : Value) : Option Bool :=
  match d, a, b with
  | .int _, .int k m, .int k' n => bif eqK k k' then some (eqI m n) else none
  | .string, .string m, .string n => some (eqBytes m.data.toList n.data.toList)
  | _, _, _ => none
/-- the entry of a key: none: some key cannot be told apart; some none: there is none -/
noncomputable def findE (d : TypeDesc) (k : Value) (es : List MapEntry) : Option (Option (Nat × Value)) :=
  List.rec (motive := fun _ => Nat → Option (Option (Nat × Value))) (fun _ => some none)
    (fun e _ ih i => match eqKey d k e.key with
      | some true => some (some (i, e.val))
      | some false => ih (Nat.succ i)
      | none => none) es 0
noncomputable def AH.map (h : AH) (r : Nat) : Option (List MapEntry × Nat) :=
  match Tr.get h.blocks (path r) with
  | some (.map es c) => some (es, c)
  | _ => none
noncomputable def opLookup (d : TypeDesc) (zero : Value) (x k : Src) (ok : Bool) (t : Tr Value) (h : AH) : R :=
  let out := fun (v : Value) (b : Bool) => R.ok (bif ok then .tuple ⟨[v, .bool b]⟩ else v) h
  match x.ev t with
  | .map none => out zero false
  | .map (some r) => match h.map r with
    | some (es, _) => match findE d (k.ev t) es with
      | some (some (_, v)) => out v true
      | some none => out zero false
      | none => .fail 58
    | none => .fail 59
  | _ => .fail 60
noncomputable def setE (es : List MapEntry) (v : Value) : Nat → List MapEntry :=
  List.rec (motive := fun _ => Nat → List MapEntry) (fun _ => []) (fun e es ih i => match i with
    | 0 => ⟨e.key, v, e.born⟩ :: es
    | i + 1 => e :: ih i) es
noncomputable def opMapUpdate (d : TypeDesc) (m k x : Src) (t : Tr Value) (h : AH) : R :=
  match m.ev t with
  | .map (some r) => match h.map r with
    | some (es, c) => match findE d (k.ev t) es with
      | some (some (i, _)) => .ok undefV ⟨Tr.set (path r) (.map (setE es (x.ev t) i) c) h.blocks, h.next, h.fams⟩
      | some none => .ok undefV ⟨Tr.set (path r) (.map (es ++ [⟨k.ev t, x.ev t, c⟩]) (c + 1)) h.blocks, h.next, h.fams⟩
      | none => .fail 61
    | none => .fail 62
  | _ => .fail 63
noncomputable def opExtract (x : Src) (i : Nat) (t : Tr Value) (h : AH) : R :=
  match x.ev t with
  | .tuple vs => match vs.toList.drop i with | v :: _ => .ok v h | [] => .fail 64
  | _ => .fail 65
noncomputable def grow (elem : TypeId) (size : Nat) (old new : List Value) (need : Nat) (h : AH) : R :=
  .ok (.slice (some ⟨h.next, 0, some 0⟩) need need) (h.new (Tr.putAll (old ++ new) 0 .nil) undefV (need * size) elem false false)
noncomputable def appSrc (size : Nat) (zero : Option (List Value)) (y : Value) (h : AH) : Option (Nat × List Value) :=
  match zero with
  | some z => match y with
    | .int _ (.ofNat n) => some (n, repL n z)
    | _ => none
  | none => match y with
    | .slice none n _ => bif Nat.beq n 0 then some (0, []) else none
    | .slice (some a) n _ => match h.cellsOf a.block a.off (n * size) with | some l => some (n, l) | none => none
    | .string b => bif Nat.beq size 1 then some (b.data.toList.length, byteVals b.data.toList) else none
    | _ => none
noncomputable def appRoom (size : Nat) (base : Option Addr) (sLen sCap need : Nat) (l : List Value) (h : AH) : R :=
  match base with
  | none => .ok (.slice none need sCap) h
  | some a => match l with
    | [] => .ok (.slice (some a) need sCap) h
    | _ => match h.storeAll a.block (a.off + sLen * size) l with
      | some h => .ok (.slice (some a) need sCap) h
      | none => .fail 66
noncomputable def appMore (elem : TypeId) (size : Nat) (base : Option Addr) (sLen sCap need : Nat) (l : List Value) (h : AH) : R :=
  match base with
  | none => bif Nat.beq sLen 0 then grow elem size [] l need h else .fail 66
  | some a =>
    match a.spot with
    | none => match h.cellsOf a.block a.off (sLen * size) with
      | some old => grow elem size old l need h
      | none => .fail 67
    | some (Nat.succ _) => .fail 68
    | some 0 => match h.blk a.block with
      | none => .fail 68
      | some B =>
        let p := sLen * size
        bif Nat.beq a.off 0 && (Nat.ble p B.size && (Nat.ble B.froz p && (Nat.ble (sCap * size) B.size && (Nat.beq B.elem elem && l.all oneC)))) then
          .ok (.slice (some ⟨h.next, 0, some 0⟩) need need)
            ⟨Tr.set (path h.next) (.cells { B with cs := Tr.putAll l p B.cs, size := need * size, exact := false }) (bif Nat.ble (h.top B.fam) p then h.blocks else kill h B.fam h.next p), Nat.succ h.next, Tr.set (path B.fam) (need * size, h.next :: h.fam B.fam) h.fams⟩
        else .fail 69
noncomputable def opAppend (elem : TypeId) (size bytes : Nat) (zero : Option (List Value)) (x y : Src) (t : Tr Value) (h : AH) : R :=
  match x.ev t, appSrc size zero (y.ev t) h with
  | .slice base sLen sCap, some (n, l) =>
    let need := sLen + n
    bif Nat.ble (need * (bytes + size + 1)) 1099511627776 then
      bif Nat.ble need sCap then appRoom size base sLen sCap need l h else appMore elem size base sLen sCap need l h
    else .fail 70
  | _, _ => .fail 71
noncomputable def opLen (d : TypeDesc) (x : Src) (t : Tr Value) (h : AH) : R :=
  match d, x.ev t with
  | .slice _, .slice _ n _ => .ok (.int .i64 (.ofNat n)) h
  | .string, .string s => .ok (.int .i64 (.ofNat s.data.toList.length)) h
  | .map _ _, .map none => .ok (.int .i64 (.ofNat 0)) h
  | .map _ _, .map (some r) => match h.map r with | some (es, _) => .ok (.int .i64 (.ofNat es.length)) h | none => .fail 72
  | _, _ => .fail 73
noncomputable def opCap (x : Src) (t : Tr Value) (h : AH) : R :=
  match x.ev t with
  | .slice none _ c => .ok (.int .i64 (.ofNat c)) h
  | .slice (some a) _ c => match a.spot with | none => .ok (.int .i64 (.ofNat c)) h | some _ => .fail 74
  | _ => .fail 75
noncomputable def copySrc (size dLen : Nat) (y : Value) (h : AH) : Option (Nat × List Value) :=
  match y with
  | .slice none n _ => some (n, [])
  | .slice (some a) n _ => match h.cellsOf a.block a.off (min n dLen * size) with | some l => some (n, l) | none => none
  | .string s => bif Nat.beq size 1 then some (s.data.toList.length, byteVals (s.data.toList.take (min s.data.toList.length dLen))) else none
  | _ => none
noncomputable def opCopy (size : Nat) (x y : Src) (t : Tr Value) (h : AH) : R :=
  match x.ev t with
  | .slice base dLen _ => match copySrc size dLen (y.ev t) h with
    | some (n, l) => match l with
      | [] => .ok (.int .i64 (.ofNat (min n dLen))) h
      | _ => match base with
        | some a => (match h.storeAll a.block a.off l with | some h => .ok (.int .i64 (.ofNat (min n dLen))) h | none => .fail 76)
        | none => .fail 77
    | none => .fail 78
  | _ => .fail 79
noncomputable def minmaxL (mn : Bool) (l : List Value) : Option Value :=
  match l with
  | .int k a :: l => List.rec (motive := fun _ => Int → Option Value) (fun a => some (.int k a)) (fun v _ ih a => match v with
      | .int _ b => bif mn then ih (bif ltI b a then b else a) else ih (bif ltI a b then b else a)
      | _ => none) l a
  | _ => none
noncomputable def opMinmax (mn : Bool) (l : List Src) (t : Tr Value) (h : AH) : R := match minmaxL mn (evs l t) with | some v => .ok v h | none => .fail 80
noncomputable def opComplex (x y : Src) (t : Tr Value) (h : AH) : R :=
  match x.ev t, y.ev t with
  | .float .f64 a, .float .f64 b => .ok (.complex .f64 a b) h
  | _, _ => .fail 81
noncomputable def opPart (im : Bool) (x : Src) (t : Tr Value) (h : AH) : R :=
  match x.ev t with
  | .complex k a b => .ok (.float k (bif im then b else a)) h
  | _ => .fail 82
noncomputable def smallB (v : Value) : Bool := match v with | .int _ (.ofNat m) => Nat.blt m 256 | _ => false
noncomputable def opUnsafeString (P : Program) (elem : TypeId) (x n : Src) (t : Tr Value) (h : AH) : R :=
  match x.ev t, n.ev t with
  | .pointer none, .int k (.ofNat 0) => bif eqK k .i64 then .ok (.string .empty) h else .fail 86
  | .pointer (some _), .int k (.ofNat 0) => bif eqK k .i64 then .ok (.string .empty) h else .fail 86
  | .pointer (some a), .int k (.ofNat n) => match h.blk a.block with
    | some B => match B.cellsOf n a.off with
      | some l => match bif B.mark || !(eqK k .i64 && Nat.ble n 1099511627776 && (Nat.beq (P.cellsOf B.elem) 1 && (Nat.beq B.elem elem && (Nat.beq a.off 0 && l.all smallB)))) then none else bytesOf l with
        | some b => .ok (.string ⟨⟨b⟩⟩) ⟨Tr.set (path a.block) (.cells { B with froz := bif Nat.ble (a.off + n) B.froz then B.froz else a.off + n }) (killA a.block (h.fam B.fam) h.blocks), h.next, h.fams⟩
        | none => .fail 83
      | none => .fail 84
    | none => .fail 85
  | _, _ => .fail 86
noncomputable def opSliceData (x : Src) (t : Tr Value) (h : AH) : R :=
  match x.ev t with
  | .slice none _ _ => .ok (.pointer none) h
  | .slice (some a) _ c => match c with | 0 => .fail 87 | _ => .ok (.pointer (some ⟨a.block, a.off, none⟩)) h
  | _ => .fail 88
noncomputable def opCallS (f : FuncId) (args : List Src) (t : Tr Value) (h : AH) : R := .call f (evs args t) h
noncomputable def opCallV (f : Src) (args : List Src) (t : Tr Value) (h : AH) : R :=
  match f.ev t with
  | .func (.func f) first captured => .call f (first.toList ++ (evs args t ++ captured.toList)) h
  | .func (.yield l) ⟨[]⟩ _ => .yield l (evs args t) h
  | _ => .fail 89
noncomputable def indexB (c : Nat) (l : List UInt8) : Int :=
  List.rec (motive := fun _ => Nat → Int) (fun _ => -1) (fun x _ ih i => bif Nat.beq x.toNat c then .ofNat i else ih (Nat.succ i)) l 0
noncomputable def opExt (e : Ext) (args : List Src) (t : Tr Value) (h : AH) : R :=
  match e, evs args t with
  | .indexByte, [.string s, .int .u8 (.ofNat c)] => bif Nat.blt c 256 then .ok (.int .i64 (indexB c s.data.toList)) h else .fail 90
  | .noEscape, [.pointer (some a)] => .ok (.pointer (some a)) h
  | _, _ => .fail 90
noncomputable def opBad (n : Nat) (_t : Tr Value) (_h : AH) : R := .fail n
noncomputable def COp.run (P : Program) (c : COp) : Tr Value → AH → R :=
  COp.rec (motive := fun _ => Tr Value → AH → R) opMv opPick opBox opBuild opBuildSlice opLoad1 opLoadN opStore opNilCheck opBin opEqAgg opUn opToInt opToFloat opFromFloat opToString opToBytes (opPtrConv P)
    opMakeFunc opMakeMap opMakeSlice opSlice opSliceStr opOffAddr opSub opIndexStr opIndexSlice opIndexArr opLookup opMapUpdate opExtract opAppend opLen opCap opCopy opMinmax opComplex opPart
    (opUnsafeString P) opSliceData opCallS opCallV opExt opBad c
end Go.Ev
namespace Go.Ev
/-! the operations of a program -/
noncomputable def srcOf (o : Operand) : Src :=
  match o with
  | .tmp t => .t (path t)
  | .const v => .c v
  | .func f => .c (.func (.func f) #[] #[])
  | .global _ => .c undefV
noncomputable def srcs (l : List Operand) : List Src := List.rec (motive := fun _ => List Src) [] (fun x _ ih => srcOf x :: ih) l
noncomputable def osrc (o : Option Operand) : Option Src := match o with | none => none | some x => some (srcOf x)
noncomputable def sizeT (P : Program) (t : TypeId) : Option Nat := match P.info? t with | some i => some i.size | none => none
noncomputable def zeroT (P : Program) (t : TypeId) : Option (List Value) := match P.info? t with | some i => (match i.zero with | some v => bif plainV 6 v then some (valCells v) else none | none => none) | none => none
noncomputable def structParts (P : Program) (fs : List Field) (l : List (Nat × Operand)) : Option (List (Nat × Nat × Src)) :=
  List.rec (motive := fun _ => Option (List (Nat × Nat × Src))) (some []) (fun p _ ih => match fs.drop p.1 with
    | f :: _ => match sizeT P f.type, ih with | some n, some r => some ((f.offset, n, srcOf p.2) :: r) | _, _ => none
    | [] => none) l
noncomputable def arrayParts (size : Nat) (l : List (Nat × Operand)) : List (Nat × Nat × Src) :=
  List.rec (motive := fun _ => List (Nat × Nat × Src)) [] (fun p _ ih => (p.1 * size, size, srcOf p.2) :: ih) l
noncomputable def isAggT (P : Program) (t : TypeId) : Option Bool := match P.underlying t with | some (.struct _) => some true | some (.array _ _) => some true | some _ => some false | none => none
/-- fields of numbers, bools, texts, one behind the other, each with a name that counts: their kinds -/
noncomputable def plainFields (P : Program) (fs : List Field) : Nat → Option (List FK) :=
  List.rec (motive := fun _ => Nat → Option (List FK)) (fun _ => some []) (fun f _ ih i =>
    bif Nat.beq f.offset i && !(f.name == "_") then (match ih (Nat.succ i), P.underlying f.type with
      | some l, some (.int _) => some (.int :: l)
      | some l, some .bool => some (.bool :: l)
      | some l, some .string => some (.str :: l)
      | _, _ => none) else none) fs
noncomputable def plainKey (P : Program) (k : TypeId) : Bool := match P.underlying k with | some (.int _) => true | some .string => true | _ => false
noncomputable def cBuiltin (P : Program) (b : Builtin) (args : List Operand) (ts : List TypeId) (ty : TypeId) : COp :=
  match b, args, ts with
  | .len, [x], [t] => match P.underlying t with | some .string => .len .string (srcOf x) | some (.slice e) => .len (.slice e) (srcOf x) | some (.map k e) => .len (.map k e) (srcOf x) | _ => .bad 101
  | .cap, [x], [t] => match P.underlying t with | some (.slice _) => .cap (srcOf x) | _ => .bad 102
  | .append, [x, y], [t, u] => match P.underlying t with
    | some (.slice e) => match P.info? e, P.underlying u with
      | some i, some (.int _) => match zeroT P e with | some z => bif Nat.beq z.length i.size then .append e i.size i.bytes (some z) (srcOf x) (srcOf y) else .bad 103 | none => .bad 103
      | some i, some (.slice _) => match i.zero with | some z => bif Nat.beq (valCells z).length i.size then .append e i.size i.bytes none (srcOf x) (srcOf y) else .bad 103 | none => .bad 103
      | some i, some .string => match i.zero with | some z => bif Nat.beq (valCells z).length i.size && Nat.beq i.size 1 then .append e i.size i.bytes none (srcOf x) (srcOf y) else .bad 103 | none => .bad 103
      | _, _ => .bad 103
    | _ => .bad 104
  | .copy, [x, y], t :: _ => match P.underlying t with
    | some (.slice e) => match sizeT P e with | some n => .copy n (srcOf x) (srcOf y) | none => .bad 105
    | _ => .bad 106
  | .min, l, _ => .minmax true (srcs l)
  | .max, l, _ => .minmax false (srcs l)
  | .complex, [x, y], _ => .complex (srcOf x) (srcOf y)
  | .real, [x], _ => .part false (srcOf x)
  | .imag, [x], _ => .part true (srcOf x)
  | .unsafeString, [x, n], [t, _] => match P.underlying t with | some (.pointer e) => .unsafeString e (srcOf x) (srcOf n) | _ => .bad 107
  | .unsafeSliceData, [x], _ => .sliceData (srcOf x)
  | _, _, _ => .bad 108
noncomputable def cConvert (P : Program) (src dst : TypeId) (x : Operand) : COp :=
  match P.underlying src, P.underlying dst with
  | some (.int _), some (.int k) => .toInt k (srcOf x)
  | some (.int _), some (.float k) => .toFloat k (srcOf x)
  | some (.float _), some (.int k) => .fromFloat k (srcOf x)
  | some .string, some (.slice e) => match P.underlying e, sizeT P e with | some (.int .u8), some 1 => .toBytes e (srcOf x) | _, _ => .bad 109
  | some (.slice e), some .string => match P.underlying e with | some (.int .u8) => .toString (srcOf x) | _ => .bad 110
  | some (.pointer _), some .unsafePointer => .ptrConv src dst (srcOf x)
  | some .unsafePointer, some (.pointer _) => .ptrConv src dst (srcOf x)
  | _, _ => .bad 111
noncomputable def extOf (E : List (Nat × Ext)) (f : Nat) : Option Ext := List.rec (motive := fun _ => Option Ext) none (fun p _ ih => match p.2 with
  | .known _ _ => ih
  | e => bif Nat.beq p.1 f then some e else ih) E
noncomputable def cCall (P : Program) (E : List (Nat × Ext)) (c : Call) (ty : TypeId) : COp :=
  match c.callee with
  | .builtin b => cBuiltin P b c.args.toList c.argTypes.toList ty
  | .invoke _ _ => .bad 112
  | .value (.func f) => match extOf E f with
    | some e => .ext e (srcs c.args.toList)
    | none => match P.funcs[f]? with
      | some fn => match fn.body with | some _ => .callS f (srcs c.args.toList) | none => .bad 113
      | none => .bad 114
  | .value f => .callV (srcOf f) (srcs c.args.toList)
noncomputable def compOp (P : Program) (E : List (Nat × Ext)) (o : Oper) : COp :=
  match o.op with
  | .move x => .mv (srcOf x)
  | .assign x => .mv (srcOf x)
  | .pick c a b => .pick (srcOf c) (srcOf a) (srcOf b)
  | .alloc e => match P.info? e with | some i => (match i.zero with | some v => bif plainV 6 v then .box e (.c v) else .bad 115 | none => .bad 115) | none => .bad 116
  | .box e x => .box e (srcOf x)
  | .build t ps => match P.underlying t, zeroT P t with
    | some (.struct fs), some z => bif fs.toList.all (fun f => (sizeT P f.type).isSome) then (match structParts P fs.toList ps.toList with | some l => .build z l | none => .bad 117) else .bad 117
    | some (.array _ e), some z => match sizeT P e with | some n => .build z (arrayParts n ps.toList) | none => .bad 118
    | _, _ => .bad 119
  | .buildSlice t len ps => match P.underlying t with
    | some (.slice e) => match sizeT P e, zeroT P e with
      | some n, some z => bif Nat.ble (len * n) 16777216 && Nat.beq z.length n then .buildSlice e len (repL len z) (arrayParts n ps.toList) else .bad 120
      | _, _ => .bad 121
    | _ => .bad 122
  | .load t a => match isAggT P t, sizeT P t with
    | some false, _ => .load1 (srcOf a)
    | some true, some n => .loadN n (srcOf a)
    | _, _ => .bad 123
  | .store t a x => match sizeT P t with | some n => .store n (srcOf a) (srcOf x) | none => .bad 124
  | .nilCheck x => .nilCheck (srcOf x)
  | .binOp op t x y _ => match P.underlying t with
    | some (.struct fs) => bif P.eqGuardType P.depth t || P.stoodInHeld t then .bad 125 else
      match op, plainFields P fs.toList 0 with
      | .eql, some ks => .eqAgg ks false (srcOf x) (srcOf y)
      | .neq, some ks => .eqAgg ks true (srcOf x) (srcOf y)
      | _, _ => .bad 125
    | some (.int _) => .bin .num op (srcOf x) (srcOf y)
    | some .string => .bin .str op (srcOf x) (srcOf y)
    | some .bool => .bin .bool op (srcOf x) (srcOf y)
    | some (.pointer e) => match sizeT P e with | some 0 => .bad 126 | some _ => .bin .ptr op (srcOf x) (srcOf y) | none => .bad 126
    | some (.slice _) => .bin .slice op (srcOf x) (srcOf y)
    | _ => .bad 126
  | .unOp op _ x => .un op (srcOf x)
  | .convert s d x => cConvert P s d x
  | .makeFunc fn first captured => match fn with
    | .func _ => .makeFunc fn (srcs first.toList) (srcs captured.toList)
    | _ => .bad 127
  | .makeMap _ none => .makeMap
  | .makeSlice t l c => match P.underlying t with
    | some (.slice e) => match P.info? e, zeroT P e with
      | some i, some z => bif Nat.beq z.length i.size then .makeSlice e i.size i.bytes z (srcOf l) (srcOf c) else .bad 128
      | _, _ => .bad 128
    | _ => .bad 129
  | .slice t x lo hi mx => match P.underlying t with
    | some .string => match mx with | none => .sliceStr (srcOf x) (osrc lo) (osrc hi) | some _ => .bad 130
    | some (.slice e) => match sizeT P e, hi, mx with
      | some _, none, some _ => .bad 131
      | some n, _, _ => .slice n (srcOf x) (osrc lo) (osrc hi) (osrc mx)
      | none, _, _ => .bad 131
    | _ => .bad 132
  | .fieldAddr t x i => match P.underlying t with
    | some (.struct fs) => match fs.toList.drop i with
      | f :: _ => match sizeT P f.type with | some 0 => .bad 133 | some _ => .offAddr f.offset (srcOf x) | none => .bad 134
      | [] => .bad 135
    | _ => .bad 136
  | .field t x i => match P.underlying t with
    | some (.struct fs) => match fs.toList.drop i with
      | f :: _ => match sizeT P f.type, isAggT P f.type with | some n, some b => .sub f.offset n b (srcOf x) | _, _ => .bad 137
      | [] => .bad 138
    | _ => .bad 139
  | .indexAddr t x i => match P.underlying t with
    | some (.slice e) => match sizeT P e with | some n => .indexSlice n (srcOf x) (srcOf i) | none => .bad 140
    | some (.array len e) => match sizeT P e with | some n => .indexArr len n (srcOf x) (srcOf i) | none => .bad 141
    | _ => .bad 142
  | .index t x i => match P.underlying t with | some .string => .indexStr (srcOf x) (srcOf i) | _ => .bad 143
  | .lookup t x k ok => match P.underlying t with
    | some (.map kt e) => match P.info? e with | some i => (match i.zero with | some z => bif plainV 6 z && plainKey P kt then (match P.underlying kt with | some d => .lookup d z (srcOf x) (srcOf k) ok | none => .bad 144) else .bad 144 | none => .bad 144) | none => .bad 145
    | _ => .bad 146
  | .mapUpdate t m k x => match P.underlying t with | some (.map kt _) => bif !(plainKey P kt) then .bad 147 else (match P.underlying kt with | some d => .mapUpdate d (srcOf m) (srcOf k) (srcOf x) | none => .bad 147) | _ => .bad 147
  | .extract x i => .extract (srcOf x) i
  | .call c => cCall P E c o.type
  | _ => .bad 148
/-! a region's operations -/
structure CI where
  dst : Option (List Bool)
  op : COp
  guard : Option (Option (List Bool) × Bool)
noncomputable def okOpd (x : Operand) : Bool := match x with | .const v => plainV 6 v | .global _ => false | _ => true
noncomputable def dstOf (nt : Nat) (o : Oper) : Option (List Bool) := match o.dst with | some d => bif Nat.blt d nt then some (path d) else none | none => none
noncomputable def guardOf (nt : Nat) (ops : List Oper) (o : Oper) : Option (Option (List Bool) × Bool) :=
  match o.guard with
  | none => none
  | some (j, w) => match ops.drop j with
    | g :: _ => some (dstOf nt g, w)
    | [] => some (none, w)
noncomputable def compI (P : Program) (E : List (Nat × Ext)) (nt : Nat) (ops : List Oper) (o : Oper) : CI :=
  ⟨dstOf nt o, bif o.op.operands.toList.all okOpd then compOp P E o else .bad 149, guardOf nt ops o⟩
noncomputable def compL (P : Program) (E : List (Nat × Ext)) (nt : Nat) (ops : List Oper) (l : List Oper) : List CI := List.rec (motive := fun _ => List CI) [] (fun o _ ih => compI P E nt ops o :: ih) l
noncomputable def putD (d : Option (List Bool)) (v : Value) (t : Tr Value) : Tr Value := match d with | some p => Tr.set p v t | none => t
noncomputable def wanted (g : Option (Option (List Bool) × Bool)) (t : Tr Value) : Bool :=
  match g with
  | none => true
  | some (none, _) => false
  | some (some p, w) => match Tr.get t p with | some (.bool b) => b == w | _ => false
inductive X where
  | normal | exit (id : Nat) | goto (l : Nat) | ret | val (v : Value)
inductive Res where
  | ok (x : X) (t : Tr Value) (h : AH)
  | fail (n : Nat)
inductive Task where
  | code (nt : Nat) (r : Bool) (c : Code) (t : Tr Value)
  | scope (nt : Nat) (r : Bool) (b c : Code) (t : Tr Value)
  | call (f : FuncId) (args : List Value)
  | yield (l : Nat) (args : List Value)
abbrev Ih := Task → AH → Res
noncomputable def runOps (P : Program) (ih : Ih) (l : List CI) : Tr Value → AH → Res :=
  List.rec (motive := fun _ => Tr Value → AH → Res) (fun t h => .ok .normal t h)
    (fun c _ k t h => bif wanted c.guard t then
        R.rec (motive := fun _ => Res) (fun v h => k (putD c.dst v t) h)
          (fun f args h => match ih (.call f args) h with | .ok (.val v) _ h => k (putD c.dst v t) h | .ok _ _ _ => .fail 201 | .fail n => .fail n)
          (fun l args h => match ih (.yield l args) h with | .ok (.val v) _ h => k (putD c.dst v t) h | .ok _ _ _ => .fail 202 | .fail n => .fail n)
          (fun n => .fail n) (COp.run P c.op t h)
      else k (putD c.dst undefV t) h) l
/-! a region whose order is drawn -/
inductive Cls where
  | p | a | l | e
noncomputable def clsOf (c : COp) : Cls :=
  match c with
  | .mv _ | .pick _ _ _ | .build _ _ | .nilCheck _ | .bin _ _ _ _ | .eqAgg _ _ _ _ | .un _ _ | .toInt _ _ | .toFloat _ _ | .fromFloat _ _ | .makeFunc _ _ _ | .slice _ _ _ _ _ | .sliceStr _ _ _
  | .offAddr _ _ | .sub _ _ _ _ | .indexStr _ _ | .indexSlice _ _ _ | .indexArr _ _ _ _ | .extract _ _ | .minmax _ _ | .complex _ _ | .part _ _ | .cap _ | .sliceData _ | .ext _ _ => .p
  | .box _ _ | .buildSlice _ _ _ _ | .toBytes _ _ | .makeMap | .makeSlice _ _ _ _ _ _ => .a
  | .load1 _ | .loadN _ _ | .toString _ | .lookup _ _ _ _ _ | .len _ _ | .ptrConv _ _ _ => .l
  | _ => .e
structure DI where
  ci : CI
  idx : Nat
  mask : Nat
  cls : Cls
noncomputable def bit (m i : Nat) : Bool := Nat.beq (Nat.land (Nat.shiftRight m i) 1) 1
/-- the mask of what must come ahead of an operation; none: an edge that does not lead back -/
noncomputable def maskOf (ms : List Nat) (i : Nat) (es : List Edge) : Option Nat :=
  List.rec (motive := fun _ => Option Nat) (some 0) (fun e _ ih => match ih with
    | none => none
    | some m => bif Region.binds .any e then (bif Nat.blt e.on i then match ms.drop (i - 1 - e.on) with
        | mk :: _ => some (Nat.lor (Nat.lor m mk) (Nat.shiftLeft 1 e.on))
        | [] => none else none) else some m) es
/-- masks, the last one first -/
noncomputable def masks (l : List Oper) : Nat → List Nat → Option (List Nat) :=
  List.rec (motive := fun _ => Nat → List Nat → Option (List Nat)) (fun _ ms => some ms)
    (fun o _ ih i ms => match maskOf ms i o.after.toList with
      | some m => ih (Nat.succ i) (m :: ms)
      | none => none) l
noncomputable def opTmps (ops : List Oper) (o : Oper) : List Nat :=
  (List.rec (motive := fun _ => List Nat) [] (fun x _ ih => match x with | .tmp t => t :: ih | _ => ih) o.op.operands.toList) ++
  (match o.guard with | some (g, _) => (match ops.drop g with | p :: _ => (match p.dst with | some d => [d] | none => []) | [] => []) | none => [])
/-- is each of these names another operation's only where the two are ordered? -/
noncomputable def namesOk (ms : List Nat) (m j : Nat) (ops : List Oper) (names : List Nat) : Bool :=
  List.rec (motive := fun _ => List Nat → Nat → Bool) (fun _ _ => true)
    (fun o _ ih ms i => match ms with
      | [] => false
      | mi :: ms => (bif Nat.beq i j then true else match o.dst with
          | none => true
          | some d => bif names.any (fun x => Nat.beq x d) then bit m i || bit mi j else true) && ih ms (Nat.succ i)) ops ms 0
noncomputable def distinct (l : List Oper) : Bool :=
  List.rec (motive := fun _ => Bool) true (fun o r ih => (match o.dst with
    | none => true
    | some d => !(r.any fun p => match p.dst with | some e => Nat.beq d e | none => false)) && ih) l
noncomputable def drawList (P : Program) (E : List (Nat × Ext)) (nt : Nat) (ops : List Oper) (all : List Nat) (l : List Oper) : Nat → List Nat → Option Nat → Option (List DI) :=
  List.rec (motive := fun _ => Nat → List Nat → Option Nat → Option (List DI)) (fun _ _ _ => some [])
    (fun o _ ih i ms last => match ms with
      | [] => none
      | m :: ms =>
        bif namesOk all m i ops (opTmps ops o) then
          let c := compI P E nt ops o
          match clsOf c.op with
          | .e => (bif (match last with | none => true | some k => bit m k) then (match ih (Nat.succ i) ms (some i) with | some r => some (⟨c, i, m, .e⟩ :: r) | none => none) else none)
          | k => match ih (Nat.succ i) ms last with | some r => some (⟨c, i, m, k⟩ :: r) | none => none
        else none) l
noncomputable def drawInfo (P : Program) (E : List (Nat × Ext)) (nt : Nat) (ops : List Oper) : Option (List DI) :=
  match masks ops 0 [] with
  | none => none
  | some ms => match ms.reverse with
    | ms => bif distinct ops then drawList P E nt ops ms ops 0 ms none else none
structure Pend where
  idx : Nat
  id : Nat
  o : AObj
structure LRec where
  idx : Nat
  mask : Nat
  op : COp
  t : Tr Value
  v : Value
structure ERec where
  idx : Nat
  mask : Nat
  h : AH   -- behind it
structure DS where
  t : Tr Value
  h : AH
  pend : List Pend
  h0 : AH
  es : List ERec   -- the last one first
  ls : List LRec
noncomputable def AH.add (h : AH) (p : Pend) : AH :=
  match p.o with
  | .cells K => match Tr.get h.fams (path p.id) with
    | some _ => h
    | none => ⟨Tr.set (path p.id) (.cells K) h.blocks, h.next, Tr.set (path p.id) (K.size, [p.id]) h.fams⟩
  | o => ⟨Tr.set (path p.id) o h.blocks, h.next, h.fams⟩
noncomputable def flush (m : Nat) (l : List Pend) (h : AH) : AH × List Pend :=
  List.rec (motive := fun _ => AH → AH × List Pend) (fun h => (h, [])) (fun p _ ih h => bif bit m p.idx then ih (h.add p) else match ih h with | (h, r) => (h, p :: r)) l h
noncomputable def flushAll (l : List Pend) (h : AH) : AH := List.rec (motive := fun _ => AH → AH) (fun h => h) (fun p _ ih h => ih (h.add p)) l h
noncomputable def eqAddr (a b : Addr) : Bool := Nat.beq a.block b.block && (Nat.beq a.off b.off && (match a.spot, b.spot with | none, none => true | some i, some j => Nat.beq i j | _, _ => false))
noncomputable def eqOA (a b : Option Addr) : Bool := match a, b with | none, none => true | some a, some b => eqAddr a b | _, _ => false
/-- surely the same (depth by fuel) -/
noncomputable def veq : Nat → Value → Value → Bool :=
  Nat.rec (fun _ _ => false) (fun _ ih a b =>
    let all := fun (x y : List Value) => List.rec (motive := fun _ => List Value → Bool) (fun y => match y with | [] => true | _ => false) (fun u _ k y => match y with | v :: y => ih u v && k y | [] => false) x y
    match a, b with
    | .bool a, .bool b => a == b
    | .int j a, .int k b => eqK j k && eqI a b
    | .string a, .string b => eqBytes a.data.toList b.data.toList
    | .pointer a, .pointer b => eqOA a b
    | .slice a l c, .slice b m d => eqOA a b && Nat.beq l m && Nat.beq c d
    | .map none, .map none => true
    | .map (some a), .map (some b) => Nat.beq a b
    | .nilFunc, .nilFunc => true
    | .nilIface, .nilIface => true
    | .chan (some a), .chan (some b) => Nat.beq a b
    | .iface i a, .iface j b => Nat.beq i j && ih a b
    | .agg a, .agg b => all a.toList b.toList
    | .tuple a, .tuple b => all a.toList b.toList
    | .func (.func f) a b, .func (.func g) c d => Nat.beq f g && all a.toList c.toList && all b.toList d.toList
    | _, _ => false)
noncomputable def listsSame (x : List Value) : List Value → Bool :=
  List.rec (motive := fun _ => List Value → Bool) (fun y => match y with | [] => true | _ => false) (fun u _ k y => match y with | v :: y => veq 12 u v && k y | [] => false) x
/-- calls whose answer is told from outside -/
noncomputable def knownOf (E : List (Nat × Ext)) (f : Nat) (args : List Value) : Option Value := List.rec (motive := fun _ => Option Value) none (fun p _ ih => match p.2 with
  | .known as v => bif Nat.beq p.1 f then (bif listsSame as args then some v else ih) else ih
  | _ => ih) E
noncomputable def loadSame (P : Program) (l : LRec) (h : AH) : Bool := match COp.run P l.op l.t h with | .ok v _ => veq 12 v l.v | _ => false
/-- at every state where it may come up, it yields the same -/
noncomputable def loadOk (P : Program) (l : LRec) (h0 : AH) (es : List ERec) : Bool :=
  -- es: the last one first; 'late': the operation behind this state has it ahead of itself or is not ordered (so this state may be its place)
  List.rec (motive := fun _ => Bool → Bool) (fun late => bif late then loadSame P l h0 else true)
    (fun e _ ih late => (bif late && !(bit e.mask l.idx) then loadSame P l e.h else true) && ih (!(bit l.mask e.idx))) es true
noncomputable def loadsOk (P : Program) (ls : List LRec) (h0 : AH) (es : List ERec) : Bool := match es with
  | [] => true
  | _ => List.rec (motive := fun _ => Bool) true (fun l _ ih => loadOk P l h0 es && ih) ls
inductive DRes where
  | ok (s : DS)
  | fail (n : Nat)
noncomputable def runDraw (P : Program) (ih : Ih) (l : List DI) : DS → DRes :=
  List.rec (motive := fun _ => DS → DRes) (fun s => .ok s)
    (fun d _ k s => bif wanted d.ci.guard s.t then
        (match d.cls with
        | .p => match COp.run P d.ci.op s.t ⟨.nil, s.h.next, .nil⟩ with
          | .ok v _ => k ⟨putD d.ci.dst v s.t, s.h, s.pend, s.h0, s.es, s.ls⟩
          | .fail n => .fail n
          | _ => .fail 301
        | .a => match COp.run P d.ci.op s.t ⟨.nil, s.h.next, .nil⟩ with
          | .ok v m => match Tr.get m.blocks (path s.h.next) with
            | some o => k ⟨putD d.ci.dst v s.t, ⟨s.h.blocks, Nat.succ s.h.next, s.h.fams⟩, ⟨d.idx, s.h.next, o⟩ :: s.pend, s.h0, s.es, s.ls⟩
            | none => .fail 302
          | .fail n => .fail n
          | _ => .fail 303
        | .l => match COp.run P d.ci.op s.t s.h with
          | .ok v _ => k ⟨putD d.ci.dst v s.t, s.h, s.pend, s.h0, s.es, ⟨d.idx, d.mask, d.ci.op, s.t, v⟩ :: s.ls⟩
          | .fail n => .fail n
          | _ => .fail 304
        | .e => match flush d.mask s.pend s.h with
          | (h, pend) =>
            let go := fun (v : Value) (h : AH) => k ⟨putD d.ci.dst v s.t, h, pend, s.h0, ⟨d.idx, d.mask, h⟩ :: s.es, s.ls⟩
            match COp.run P d.ci.op s.t h with
            | .ok v h => go v h
            | .call f args h => (match ih (.call f args) h with | .ok (.val v) _ h => go v h | .ok _ _ _ => .fail 305 | .fail n => .fail n)
            | .yield l args h => (match ih (.yield l args) h with | .ok (.val v) _ h => go v h | .ok _ _ _ => .fail 306 | .fail n => .fail n)
            | .fail n => .fail n)
      else k ⟨putD d.ci.dst undefV s.t, s.h, s.pend, s.h0, s.es, s.ls⟩) l
noncomputable def runDrawn (P : Program) (E : List (Nat × Ext)) (ih : Ih) (nt : Nat) (ops : List Oper) (t : Tr Value) (h : AH) : Res :=
  match drawInfo P E nt ops with
  | none => .fail 307
  | some l => match runDraw P ih l ⟨t, h, [], h, [], []⟩ with
    | .ok s => bif loadsOk P s.ls s.h0 s.es then .ok .normal s.t (flushAll s.pend s.h) else .fail 308
    | .fail n => .fail n
noncomputable def cSkip (t : Tr Value) (h : AH) : Res := .ok .normal t h
noncomputable def cSeq (ih : Ih) (nt : Nat) (r : Bool) (a b : Code) (t : Tr Value) (h : AH) : Res :=
  match ih (.code nt r a t) h with
  | .ok .normal t h => ih (.code nt r b t) h
  | x => x
noncomputable def cCond (P : Program) (ih : Ih) (nt : Nat) (r : Bool) (c : Operand) (a b : Code) (t : Tr Value) (h : AH) : Res :=
  match bif okOpd c then (srcOf c).ev t else undefV with
  | .bool true => ih (.code nt r a t) h
  | .bool false => ih (.code nt r b t) h
  | _ => .fail 203
noncomputable def cBlock (ih : Ih) (nt : Nat) (r : Bool) (id : Nat) (b : Code) (t : Tr Value) (h : AH) : Res :=
  match ih (.code nt r b t) h with
  | .ok (.exit i) t h => bif Nat.beq i id then .ok .normal t h else .ok (.exit i) t h
  | x => x
noncomputable def cLoop (ih : Ih) (nt : Nat) (r : Bool) (b : Code) (t : Tr Value) (h : AH) : Res :=
  match ih (.code nt r b t) h with
  | .ok .normal t h => ih (.code nt r (.loop b) t) h
  | x => x
noncomputable def endL (l : Nat) (h : AH) : Option (Option Code × AH) :=
  match Tr.get h.blocks (path l) with
  | some (.loop nt t ps as bd st pe) => match st with
    | .busy => none
    | _ => some (pe, ⟨Tr.set (path l) (.loop nt t ps as bd .exhausted pe) h.blocks, h.next, h.fams⟩)
  | _ => none
noncomputable def cRange (P : Program) (ih : Ih) (nt : Nat) (r : Bool) (f : Operand) (params : List Nat) (assign body : Code) (t : Tr Value) (h : AH) : Res :=
  bif r then .fail 204 else
  match bif okOpd f then (srcOf f).ev t else undefV with
  | .func (.func g) first captured =>
    match ih (.call g (first.toList ++ (.func (.yield h.next) #[] #[] :: captured.toList))) (h.newObj (.loop nt t params assign body .ready none)) with
    | .ok (.val _) _ h1 => match endL h.next h1 with
      | none => .fail 205
      | some (pe, h2) => match pe with
        | none => .ok .normal t h2
        | some c => ih (.code nt r c t) h2
    | .ok _ _ _ => .fail 207
    | .fail n => .fail n
  | _ => .fail 208
noncomputable def runCode (P : Program) (E : List (Nat × Ext)) (ih : Ih) (nt : Nat) (r : Bool) (c : Code) (t : Tr Value) (h : AH) : Res :=
  Code.casesOn (motive := fun _ => Res) c
    (cSkip t h)
    (fun _ ops d => bif d then runDrawn P E ih nt ops.toList t h else runOps P ih (compL P E nt ops.toList ops.toList) t h)
    (fun a b => cSeq ih nt r a b t h)
    (fun c a b => cCond P ih nt r c a b t h)
    (fun id b => cBlock ih nt r id b t h)
    (fun b => cLoop ih nt r b t h)
    (fun f ps as bd => cRange P ih nt r f ps.toList as bd t h)
    (fun id => .ok (.exit id) t h)
    (fun b => ih (.scope nt r b b t) h)
    (fun _ => cSkip t h)
    (fun l => .ok (.goto l) t h)
    (.ok .ret t h)
    (fun _ => .fail 209)
noncomputable def runScope (ih : Ih) (nt : Nat) (r : Bool) (b c : Code) (t : Tr Value) (h : AH) : Res :=
  match ih (.code nt r c t) h with
  | .ok (.goto l) t h => match findLabel b l with
    | some rest => ih (.scope nt r b rest t) h
    | none => .ok (.goto l) t h
  | x => x
noncomputable def resultVals (P : Program) (rs : List ResultVar) (t : Tr Value) (h : AH) : Option (List Value) :=
  List.rec (motive := fun _ => Option (List Value)) (some []) (fun r _ ih => match r with
    | .tmp i => match ih with | some l => some ((Src.t (path i)).ev t :: l) | none => none
    | .cell a ty => match (Src.t (path a)).ev t, isAggT P ty, sizeT P ty with
      | .pointer (some p), some false, _ => match h.cell p.block p.off, ih with | some v, some l => some (v :: l) | _, _ => none
      | .pointer (some p), some true, some n => match h.cellsOf p.block p.off n, ih with | some cs, some l => some (.agg ⟨cs⟩ :: l) | _, _ => none
      | _, _, _ => none) rs
noncomputable def finish (P : Program) (fn : Func) (t : Tr Value) (h : AH) : Res :=
  match resultVals P fn.results.toList t h with
  | some [v] => .ok (.val v) .nil h
  | some l => .ok (.val (.tuple ⟨l⟩)) .nil h
  | none => .fail 210
noncomputable def runCall (P : Program) (ih : Ih) (f : FuncId) (args : List Value) (h : AH) : Res :=
  match P.funcs[f]? with
  | none => .fail 211
  | some fn => match fn.body with
    | none => .fail 212
    | some b => match bif Nat.ble args.length fn.ntmps then ih (.code fn.ntmps false b (Tr.putAll args 0 .nil)) h else .fail 219 with
      | .ok .normal t h => finish P fn t h
      | .ok .ret t h => finish P fn t h
      | .ok _ _ _ => .fail 213
      | .fail n => .fail n
noncomputable def setParams (ps : List Nat) : List Value → Tr Value → Tr Value :=
  List.rec (motive := fun _ => List Value → Tr Value → Tr Value) (fun _ t => t) (fun p _ ih l t => match l with
    | v :: l => ih l (Tr.set (path p) v t)
    | [] => t) ps
noncomputable def beginR (l : Nat) (h : AH) : Option AH :=
  match Tr.get h.blocks (path l) with
  | some (.loop nt t ps as bd .ready pe) => some ⟨Tr.set (path l) (.loop nt t ps as bd .busy pe) h.blocks, h.next, h.fams⟩
  | _ => none
noncomputable def jumpOf (x : X) : Option (Option Code) := match x with | .normal => some none | .ret => some (some .ret) | .exit i => some (some (.exit i)) | .goto i => some (some (.goto i)) | .val _ => none
noncomputable def endR (l : Nat) (j : Option Code) (h : AH) : Option AH :=
  match Tr.get h.blocks (path l) with
  | some (.loop nt t ps as bd _ _) => some ⟨Tr.set (path l) (.loop nt t ps as bd (match j with | none => .ready | some _ => .done) j) h.blocks, h.next, h.fams⟩
  | _ => none
noncomputable def runYield (ih : Ih) (l : Nat) (args : List Value) (h : AH) : Res :=
  match Tr.get h.blocks (path l) with
  | some (.loop nt t ps as bd _ _) =>
    bif Nat.beq ps.length args.length && ps.all (fun p => Nat.blt p nt) then
    match ih (.code nt true as (setParams ps args t)) h with
    | .ok .normal t1 h1 => match beginR l h1 with
      | some h2 => match ih (.code nt true bd t1) h2 with
        | .ok x _ h3 => match jumpOf x with
          | some j => match endR l j h3 with
            | some h4 => .ok (.val (.bool j.isNone)) .nil h4
            | none => .fail 214
          | none => .fail 214
        | .fail n => .fail n
      | none => .fail 215
    | .ok _ _ _ => .fail 216
    | .fail n => .fail n
    else .fail 217
  | _ => .fail 218
noncomputable def runTask (P : Program) (E : List (Nat × Ext)) (ih : Ih) (k : Task) (h : AH) : Res :=
  Task.rec (motive := fun _ => Res) (fun nt r c t => runCode P E ih nt r c t h) (fun nt r b c t => runScope ih nt r b c t h) (fun f args => match knownOf E f args with | some v => .ok (.val v) .nil h | none => runCall P ih f args h) (fun l args => runYield ih l args h) k
noncomputable def ev (P : Program) (E : List (Nat × Ext)) : Nat → Ih := Nat.rec (fun _ _ => .fail 200) (fun _ ih k h => runTask P E ih k h)
noncomputable def outcome (r : Res) : Nat := match r with | .ok (.val (.bool true)) _ _ => 1000 | .ok (.val (.bool false)) _ _ => 1001 | .ok _ _ _ => 1002 | .fail n => n
end Go.Ev
