import Derived.Calls
import Derived.Orders
import Derived.Laws.Bits
import Derived.Below
import Derived.Laws.World
import Derived.Laws.Sem
import Derived.Laws.Rows
import Derived.Laws.NewBlocks
import Derived.Laws.Append
import Derived.Laws.MakeOwn
import Derived.Laws.Slices
import Derived.Laws.Small
import Derived.Laws.BitsAllLaws
import Derived.IntWalk
import Derived.Laws.Strings
import Derived.Laws.CopyRow
import Derived.Laws.AppendOwn

section
/- The symbolic machine V: values by content, objects by number, and a weakest precondition that evaluates. Definitions alone. -/
set_option linter.unusedVariables false
namespace Go.Proofs.Ytodhnbjncmihkaa.V
open Go

/-- The kind of a cell. -/
inductive LK where
  | int (k : IntKind) | bool | str | sl (e : TypeId) | oth
/-- What a type is, as far as it is looked at. -/
inductive TD where
  | int (k : IntKind) | bool | str | sl (e : TypeId) | st (fs : List (Nat × TypeId)) | arr (n : Nat) (e : TypeId) | ptr (e : TypeId) | oth
structure TI where
  d : TD
  ks : List LK
  bytes : Nat
/-- Data by content. -/
inductive D where
  | sc (v : Value)
  | sl (xs : List (List D))
instance : Inhabited D := ⟨.sl []⟩
def D.int : D → Int | .sc (.int _ n) => n | _ => 0
def D.bool : D → Bool | .sc (.bool b) => b | _ => false
def D.str : D → ByteArray | .sc (.string s) => s | _ => ByteArray.empty
def D.rows : D → List (List D) | .sl xs => xs | _ => []
/-- A cell's value. -/
inductive L where
  | sc (v : Value)
  | kb (b : Bool)
  | ro (e : TypeId) (xs : List (List D))
  | all (id ver : Nat)
  | part (id ver lo len : Nat)
  | ptr (id ver i j : Nat)
  | rptr (ks : List LK) (ds : List D) (j : Nat)
  | fn (f : FuncId) (caps : List Nat)
inductive V where
  | one (l : L)
  | agg (ls : List L)
  | tup (vs : List V)
  | junk
/-- A row: its elements lead to rows of its own (tree), to what is only read (sh), or it is only read itself (froz). -/
inductive RK where
  | tree | sh | froz
inductive O where
  | dead
  | row (e : TypeId) (k : RK) (ver : Nat) (xs : List (List D))
  | box (t : TypeId) (ls : List L)
abbrev Frm := List (Nat × V)
abbrev Sto := List (Nat × O)
structure St where
  F : Frm
  S : Sto
  nx : Nat
structure Cfg where
  P : Program
  T : TypeId → Option TI
  loan : FuncId → Bool
  nest : Bool := false

def get : Frm → Nat → V
  | [], _ => .junk
  | (k, v) :: r, t => match Nat.beq k t with | true => v | false => get r t
def geto : Sto → Nat → O
  | [], _ => .dead
  | (k, v) :: r, t => match Nat.beq k t with | true => v | false => geto r t

/-! ### what is told is told plainly: numbers of objects, values, stores -/
def fN (n : Nat) (K : Nat → Prop) : Prop :=
  match n with
  | 0 => K 0
  | 1 => K 1
  | 2 => K 2
  | 3 => K 3
  | 4 => K 4
  | 5 => K 5
  | 6 => K 6
  | 7 => K 7
  | 8 => K 8
  | 9 => K 9
  | 10 => K 10
  | 11 => K 11
  | 12 => K 12
  | 13 => K 13
  | 14 => K 14
  | 15 => K 15
  | 16 => K 16
  | 17 => K 17
  | 18 => K 18
  | 19 => K 19
  | 20 => K 20
  | 21 => K 21
  | 22 => K 22
  | 23 => K 23
  | 24 => K 24
  | 25 => K 25
  | 26 => K 26
  | 27 => K 27
  | 28 => K 28
  | 29 => K 29
  | 30 => K 30
  | 31 => K 31
  | 32 => K 32
  | n => K n
def fNs : List Nat → (List Nat → Prop) → Prop
  | [], K => K []
  | n :: r, K => fN n fun n => fNs r fun r => K (n :: r)
def fL (l : L) (K : L → Prop) : Prop :=
  match l with
  | .all id v => fN id fun id => K (.all id v)
  | .part id v lo n => fN id fun id => K (.part id v lo n)
  | .ptr id v i j => fN id fun id => K (.ptr id v i j)
  | .fn f caps => fNs caps fun caps => K (.fn f caps)
  | .sc v => K (.sc v)
  | .kb b => K (.kb b)
  | .ro e xs => K (.ro e xs)
  | .rptr ks ds j => K (.rptr ks ds j)
def fLs : List L → (List L → Prop) → Prop
  | [], K => K []
  | l :: r, K => fL l fun l => fLs r fun r => K (l :: r)
def fV1 (v : V) (K : V → Prop) : Prop :=
  match v with
  | .one l => fL l fun l => K (.one l)
  | .agg ls => fLs ls fun ls => K (.agg ls)
  | .tup vs => K (.tup vs)
  | .junk => K .junk
def fVs : List V → (List V → Prop) → Prop
  | [], K => K []
  | v :: r, K => fV1 v fun v => fVs r fun r => K (v :: r)
def fV (v : V) (K : V → Prop) : Prop :=
  match v with
  | .tup vs => fVs vs fun vs => K (.tup vs)
  | .one l => fL l fun l => K (.one l)
  | .agg ls => fLs ls fun ls => K (.agg ls)
  | .junk => K .junk
def fO (o : O) (K : O → Prop) : Prop :=
  match o with
  | .dead => K .dead
  | .row e .tree v xs => K (.row e .tree v xs)
  | .row e .sh v xs => K (.row e .sh v xs)
  | .row e .froz v xs => K (.row e .froz v xs)
  | .box t ls => fLs ls fun ls => K (.box t ls)
def fS : Sto → (Sto → Prop) → Prop
  | [], K => K []
  | (k, o) :: r, K => fN k fun k => fO o fun o => fS r fun r => K ((k, o) :: r)

def kEq : IntKind → IntKind → Bool
  | .i8, .i8 | .i16, .i16 | .i32, .i32 | .i64, .i64 | .u8, .u8 | .u16, .u16 | .u32, .u32 | .u64, .u64 => true
  | _, _ => false
def lkEq : LK → LK → Bool
  | .int a, .int b => kEq a b
  | .bool, .bool => true
  | .str, .str => true
  | .sl a, .sl b => Nat.beq a b
  | _, _ => false
def lksEq : List LK → List LK → Bool
  | [], [] => true
  | a :: r, b :: q => match lkEq a b with | true => lksEq r q | false => false
  | _, _ => false

def cL : Value → L
  | .bool b => .kb b
  | v => .sc v
def constV : Value → V
  | .agg cs => .agg (cs.toList.map cL)
  | .tuple _ => .junk
  | .bool b => .one (.kb b)
  | v => .one (.sc v)
def ev (F : Frm) : Operand → V
  | .tmp t => get F t
  | .const v => constV v
  | .func f => .one (.fn f [])
  | .global _ => .junk

def rng : IntKind → Int → Prop
  | .i8, n => -128 ≤ n ∧ n ≤ 127
  | .i16, n => -32768 ≤ n ∧ n ≤ 32767
  | .i32, n => -2147483648 ≤ n ∧ n ≤ 2147483647
  | .i64, n => -9223372036854775808 ≤ n ∧ n ≤ 9223372036854775807
  | .u8, n => 0 ≤ n ∧ n ≤ 255
  | .u16, n => 0 ≤ n ∧ n ≤ 65535
  | .u32, n => 0 ≤ n ∧ n ≤ 4294967295
  | .u64, n => 0 ≤ n ∧ n ≤ 18446744073709551615

def isKb : L → Option Bool
  | .kb b => some b
  | _ => none
/-- Both ways of a truth value, or the one that is known. -/
def fork : V → (Bool → Prop) → Prop
  | .one (.kb b), K => K b
  | .one (.sc (.bool p)), K => (p = true → K true) ∧ (p = false → K false)
  | _, _ => False
def toB : L → Option Bool
  | .kb b => some b
  | .sc (.bool b) => some b
  | _ => none

/-- What an element's cell of a kind holds, as a value; a fact that comes with it. -/
def leafOf : LK → D → (L → Prop) → Prop
  | .int k, d, K => rng k d.int → K (.sc (.int k d.int))
  | .bool, d, K => K (.sc (.bool d.bool))
  | .str, d, K => d.str.size ≤ 9223372036854775807 → K (.sc (.string d.str))
  | .sl e, d, K => d.rows.length ≤ 9223372036854775807 → K (.ro e d.rows)
  | .oth, _, _ => False
def leaves : List LK → List D → Nat → (List L → Prop) → Prop
  | [], _, _, K => K []
  | κ :: ks, ds, j, K => leafOf κ (ds.getD j default) fun l => leaves ks ds (j + 1) fun ls => K (l :: ls)
/-- The value of a type out of its cells. -/
def mkV (i : TI) (ls : List L) : V :=
  match i.d with
  | .st _ => .agg ls
  | .arr _ _ => .agg ls
  | _ => match ls with | [l] => .one l | _ => .junk
def lsOf : V → Option (List L)
  | .one l => some [l]
  | .agg ls => some ls
  | _ => none

def zeroL : LK → L
  | .int k => .sc (.int k 0)
  | .bool => .kb false
  | .str => .sc (.string ⟨#[]⟩)
  | .sl _ => .sc (.slice none 0 0)
  | .oth => .sc (.tuple #[])
def zeroD : LK → D
  | .int k => .sc (.int k 0)
  | .bool => .sc (.bool false)
  | .str => .sc (.string ⟨#[]⟩)
  | .sl _ => .sl []
  | .oth => .sc (.tuple #[])
def noOth : List LK → Bool
  | [] => true
  | .oth :: _ => false
  | _ :: r => noOth r

/-- A cell's value goes into a row: as data; what it led to becomes part of the row, or is only read from then on. -/
def toD : LK → L → RK → Sto → (D → RK → Sto → Prop) → Prop
  | .int k, .sc (.int k' n), q, S, K => match kEq k k' with | true => K (.sc (.int k n)) q S | false => False
  | .bool, .sc (.bool b), q, S, K => K (.sc (.bool b)) q S
  | .bool, .kb b, q, S, K => K (.sc (.bool b)) q S
  | .str, .sc (.string s), q, S, K => K (.sc (.string s)) q S
  | .sl _, .sc (.slice none 0 0), q, S, K => K (.sl []) q S
  | .sl e, .ro e' xs, _, S, K => match Nat.beq e e' with | true => K (.sl xs) .sh S | false => False
  | .sl e, .all id ver, q, S, K =>
    match geto S id with
    | .row e' k' ver' ys =>
      match Nat.beq e e' && Nat.beq ver ver' with
      | true => match q, k' with
        | .tree, .tree => K (.sl ys) .tree ((id, .dead) :: S)
        | _, _ => K (.sl ys) .sh ((id, .row e' .froz ver' ys) :: S)
      | false => False
    | _ => False
  | .sl e, .part id ver lo n, _, S, K =>
    match geto S id with
    | .row e' _ ver' ys =>
      match Nat.beq e e' && Nat.beq ver ver' with
      | true => K (.sl ((ys.drop lo).take n)) .sh ((id, .row e' .froz ver' ys) :: S)
      | false => False
    | _ => False
  | _, _, _, _, _ => False
def toDs : List LK → List L → RK → Sto → (List D → RK → Sto → Prop) → Prop
  | [], [], q, S, K => K [] q S
  | κ :: ks, l :: ls, q, S, K => toD κ l q S fun d q S => toDs ks ls q S fun ds q S => K (d :: ds) q S
  | _, _, _, _, _ => False

/-- n cells from j on are exchanged. -/
def splice {α : Type} : List α → Nat → List α → List α
  | [], _, _ => []
  | x :: xs, 0, v :: vs => v :: splice xs 0 vs
  | x :: xs, 0, [] => x :: xs
  | x :: xs, j + 1, vs => x :: splice xs j vs
def sub {α : Type} : List α → Nat → Nat → List α
  | _, _, 0 => []
  | [], _, _ => []
  | x :: xs, 0, n + 1 => x :: sub xs 0 n
  | _ :: xs, j + 1, n + 1 => sub xs j (n + 1)

def bin (bt : Bool) (op : BinOp) (x y : L) (K : L → Prop) : Prop :=
  match x, y with
  | .sc (.int k a), .sc (.int k' b) =>
    match op with
    | .shl => 0 ≤ b ∧ K (.sc (.int k (k.wrap (a * 2 ^ (min b.toNat k.bits)))))
    | .shr => 0 ≤ b ∧ K (.sc (.int k (a.fdiv (2 ^ (min b.toNat k.bits)))))
    | op =>
      match kEq k k' with
      | false => False
      | true =>
        match op with
        | .add => K (.sc (.int k (k.wrap (a + b))))
        | .sub => K (.sc (.int k (k.wrap (a - b))))
        | .mul => K (.sc (.int k (k.wrap (a * b))))
        | .quo => b ≠ 0 ∧ K (.sc (.int k (k.wrap (a.tdiv b))))
        | .rem => b ≠ 0 ∧ K (.sc (.int k (a.tmod b)))
        | .eql => K (.sc (.bool (decide (a = b))))
        | .neq => K (.sc (.bool (decide (a ≠ b))))
        | .lss => K (.sc (.bool (decide (a < b))))
        | .leq => K (.sc (.bool (decide (a ≤ b))))
        | .gtr => K (.sc (.bool (decide (a > b))))
        | .geq => K (.sc (.bool (decide (a ≥ b))))
        | op => K (.sc (.int k (Go.bits op k a b)))
  | .sc (.string a), .sc (.string b) =>
    match op with
    | .add => a.size + b.size ≤ 9223372036854775807 ∧ K (.sc (.string (a ++ b)))
    | .eql => K (.sc (.bool (decide (a = b))))
    | .neq => K (.sc (.bool (decide (a ≠ b))))
    | _ => False
  | x, y => match toB x, toB y with
    | some a, some b => match op, bt with
      | .eql, true => K (.sc (.bool (a == b)))
      | .neq, true => K (.sc (.bool (a != b)))
      | _, _ => False
    | _, _ => False
def un (op : UnOp) (x : L) (K : L → Prop) : Prop :=
  match op, x with
  | .neg, .sc (.int k n) => K (.sc (.int k (k.wrap (0 - n))))
  | .not, .kb b => K (.kb (!b))
  | .not, .sc (.bool b) => K (.sc (.bool (!b)))
  | _, _ => False

/-- The elements that a slice of one's own shows. -/
def shown (S : Sto) : L → Option (TypeId × List (List D))
  | .ro e xs => some (e, xs)
  | .all id ver => match geto S id with
    | .row e _ ver' xs => match Nat.beq ver ver' with | true => some (e, xs) | false => none
    | _ => none
  | .part id ver lo n => match geto S id with
    | .row e _ ver' xs => match Nat.beq ver ver' with | true => some (e, (xs.drop lo).take n) | false => none
    | _ => none
  | _ => none
/-- A cell's value as data that is only read. -/
def viewD (S : Sto) : LK → L → Option D
  | .int k, .sc (.int k' n) => match kEq k k' with | true => some (.sc (.int k n)) | false => none
  | .bool, .sc (.bool b) => some (.sc (.bool b))
  | .bool, .kb b => some (.sc (.bool b))
  | .str, .sc (.string s) => some (.sc (.string s))
  | .sl _, .sc (.slice none 0 0) => some (.sl [])
  | .sl e, l => match shown S l with | some (e', xs) => (match Nat.beq e e' with | true => some (.sl xs) | false => none) | none => none
  | _, _ => none
def viewDs (S : Sto) : List LK → List L → Option (List D)
  | [], [] => some []
  | κ :: ks, l :: ls => match viewD S κ l, viewDs S ks ls with | some d, some ds => some (d :: ds) | _, _ => none
  | _, _ => none
end Go.Proofs.Ytodhnbjncmihkaa.V
end

section
/- The symbolic machine V: what its values and objects say of the machine's memory. Definitions alone. -/
namespace Go.Proofs.Ytodhnbjncmihkaa.V
open Go

def maxI : Nat := 9223372036854775807

/-- What is only read: its blocks lie in Z. -/
inductive Rd (T : TypeId → Option TI) (w : World) (Z : Nat → Prop) : LK → D → Value → Prop
  | int {k : IntKind} {n : Int} (h : rng k n) : Rd T w Z (.int k) (.sc (.int k n)) (.int k n)
  | bool (b : Bool) : Rd T w Z .bool (.sc (.bool b)) (.bool b)
  | str {s : ByteArray} (h : s.size ≤ maxI) : Rd T w Z .str (.sc (.string s)) (.string s)
  | nil {e : TypeId} {a : Option Addr} {c : Nat} : Rd T w Z (.sl e) (.sl []) (.slice a 0 c)
  | sl {e : TypeId} {i : TI} {xs : List (List D)} {a : Addr} {cap : Nat} (u : Nat → Nat → Value) (hT : T e = some i) (hm : xs.length ≤ maxI) (hle : xs.length ≤ cap) (hZ : Z a.block) (hs : a.spot = none)
      (hx : ∀ (p : Nat) (x : List D), xs[p]? = some x → x.length = i.ks.length)
      (hc : ∀ p j, p < xs.length → j < i.ks.length → w.cell? (a.add (p * i.ks.length + j)) = some (u p j))
      (hr : ∀ (p : Nat) (x : List D) (j : Nat) (κ : LK) (d : D), xs[p]? = some x → i.ks[j]? = some κ → x[j]? = some d → Rd T w Z κ d (u p j)) :
      Rd T w Z (.sl e) (.sl xs) (.slice (some a) xs.length cap)

/-- A tree of rows of one's own, on just the blocks X. -/
inductive Ow (T : TypeId → Option TI) (w : World) : (Nat → Prop) → LK → D → Value → Prop
  | int {X : Nat → Prop} {k : IntKind} {n : Int} (hX : ∀ b, ¬ X b) (h : rng k n) : Ow T w X (.int k) (.sc (.int k n)) (.int k n)
  | bool {X : Nat → Prop} (hX : ∀ b, ¬ X b) (b : Bool) : Ow T w X .bool (.sc (.bool b)) (.bool b)
  | str {X : Nat → Prop} {s : ByteArray} (hX : ∀ b, ¬ X b) (h : s.size ≤ maxI) : Ow T w X .str (.sc (.string s)) (.string s)
  | nil {X : Nat → Prop} {e : TypeId} (hX : ∀ b, ¬ X b) : Ow T w X (.sl e) (.sl []) (.slice none 0 0)
  | sl {X : Nat → Prop} {e : TypeId} {i : TI} {xs : List (List D)} {b : Nat} {arr : Array Value} {cap : Nat} (u : Nat → Nat → Value) (Y : Nat → Nat → Nat → Prop)
      (hT : T e = some i) (hm : xs.length ≤ maxI) (hb : w.heap[b]? = some (.cells arr e (0, 0))) (hcap : arr.size = cap * i.ks.length) (hle : xs.length ≤ cap)
      (hx : ∀ (p : Nat) (x : List D), xs[p]? = some x → x.length = i.ks.length)
      (hc : ∀ p j, p < xs.length → j < i.ks.length → arr[p * i.ks.length + j]? = some (u p j))
      (hr : ∀ (p : Nat) (x : List D) (j : Nat) (κ : LK) (d : D), xs[p]? = some x → i.ks[j]? = some κ → x[j]? = some d → Ow T w (Y p j) κ d (u p j))
      (hd : ∀ p j p' j' k, Y p j k → Y p' j' k → p = p' ∧ j = j') (hn : ∀ p j, ¬ Y p j b)
      (hX : ∀ k, X k ↔ (k = b ∨ ∃ p j, p < xs.length ∧ j < i.ks.length ∧ Y p j k)) :
      Ow T w X (.sl e) (.sl xs) (.slice (some ⟨b, 0, none⟩) xs.length cap)

/-- A row of one's own that leads to what is only read. -/
inductive Sh (T : TypeId → Option TI) (w : World) (Z : Nat → Prop) (X : Nat → Prop) (e : TypeId) : List (List D) → Value → Prop
  | nil (hX : ∀ b, ¬ X b) : Sh T w Z X e [] (.slice none 0 0)
  | sl {i : TI} {xs : List (List D)} {b : Nat} {arr : Array Value} {cap : Nat} (u : Nat → Nat → Value)
      (hT : T e = some i) (hm : xs.length ≤ maxI) (hb : w.heap[b]? = some (.cells arr e (0, 0))) (hcap : arr.size = cap * i.ks.length) (hle : xs.length ≤ cap)
      (hx : ∀ (p : Nat) (x : List D), xs[p]? = some x → x.length = i.ks.length)
      (hc : ∀ p j, p < xs.length → j < i.ks.length → arr[p * i.ks.length + j]? = some (u p j))
      (hr : ∀ (p : Nat) (x : List D) (j : Nat) (κ : LK) (d : D), xs[p]? = some x → i.ks[j]? = some κ → x[j]? = some d → Rd T w Z κ d (u p j))
      (hX : ∀ k, X k ↔ k = b) : Sh T w Z X e xs (.slice (some ⟨b, 0, none⟩) xs.length cap)

/-- What the objects are in memory: what is only read; the value by which each is reached; its blocks. -/
structure Cx where
  Z : Nat → Prop
  cur : Nat → Value
  X : Nat → Nat → Prop

/-- A cell's value, in memory. -/
def LR (T : TypeId → Option TI) (w : World) (c : Cx) (S : Sto) (nx : Nat) : L → Value → Prop
  | .sc v, u => u = v ∧ v.oneCell' = true ∧ (∀ k n, v = .int k n → rng k n) ∧ (∀ s, v = .string s → s.size ≤ maxI)
  | .kb b, u => u = .bool b
  | .ro e xs, u => Rd T w c.Z (.sl e) (.sl xs) u
  | .all id ver, u => id < nx ∧ (∃ A n m, u = .slice A n m) ∧ ∀ e k ver' xs, geto S id = .row e k ver' xs → ver ≤ ver' ∧ (ver = ver' → u = c.cur id)
  | .part id ver lo n, u => id < nx ∧ (∃ A m, u = .slice A n m ∧ n ≤ m) ∧ ∀ e k ver' xs, geto S id = .row e k ver' xs → ver ≤ ver' ∧ (ver = ver' → lo + n ≤ xs.length ∧
      (∀ i, T e = some i → 0 < n → ∃ b cap m, c.cur id = .slice (some ⟨b, 0, none⟩) xs.length cap ∧ u = .slice (some ⟨b, lo * i.ks.length, none⟩) n m) ∧ (lo = 0 → ∃ A cap, c.cur id = .slice A xs.length cap ∧ u = .slice A n cap))
  | .ptr id ver p j, u => id < nx ∧ (∃ a, u = .pointer (some a)) ∧
      (∀ e k ver' xs, geto S id = .row e k ver' xs → ver ≤ ver' ∧ (ver = ver' → p < xs.length ∧ ∀ i, T e = some i → ∃ b cap, c.cur id = .slice (some ⟨b, 0, none⟩) xs.length cap ∧ u = .pointer (some ⟨b, p * i.ks.length + j, none⟩))) ∧
      (∀ t ls, geto S id = .box t ls → ∃ b, c.cur id = .pointer (some ⟨b, 0, none⟩) ∧ u = .pointer (some ⟨b, j, none⟩))
  | .rptr ks ds j, u => ∃ a, u = .pointer (some a) ∧ a.spot = none ∧ c.Z a.block ∧ ds.length = ks.length ∧ ∀ (q : Nat) (κ : LK) (d : D), ks[j + q]? = some κ → ds[j + q]? = some d → ∃ v, w.cell? (a.add q) = some v ∧ Rd T w c.Z κ d v
  | .fn f caps, u => (∀ id, id ∈ caps → id < nx) ∧ ∃ us : List Value, u = .func (.func f) #[] us.toArray ∧ us.length = caps.length ∧ ∀ (q id : Nat), caps[q]? = some id → ∃ x, us[q]? = some x ∧ (∃ a, x = .pointer (some a)) ∧ ∀ t ls, geto S id = .box t ls → x = c.cur id

def LRs (T : TypeId → Option TI) (w : World) (c : Cx) (S : Sto) (nx : Nat) (ls : List L) (us : List Value) : Prop :=
  us.length = ls.length ∧ ∀ (j : Nat) (l : L), ls[j]? = some l → ∃ u, us[j]? = some u ∧ LR T w c S nx l u
/-- A value, in memory. -/
inductive VR (T : TypeId → Option TI) (w : World) (c : Cx) (S : Sto) (nx : Nat) : V → Value → Prop
  | one {l : L} {u : Value} (h : LR T w c S nx l u) : VR T w c S nx (.one l) u
  | agg {ls : List L} {us : Array Value} (h : LRs T w c S nx ls us.toList) : VR T w c S nx (.agg ls) (.agg us)
  | tup {vs : List V} {us : Array Value} (hl : us.size = vs.length) (h : ∀ (j : Nat) (v : V) (u : Value), vs[j]? = some v → us[j]? = some u → VR T w c S nx v u) : VR T w c S nx (.tup vs) (.tuple us)
  | junk {u : Value} : VR T w c S nx .junk u

def OS (T : TypeId → Option TI) (w : World) (c : Cx) (S : Sto) (nx : Nat) (id : Nat) : O → Prop
  | .dead => ∀ b, ¬ c.X id b
  | .row e .tree _ xs => Ow T w (c.X id) (.sl e) (.sl xs) (c.cur id)
  | .row e .sh _ xs => Sh T w c.Z (c.X id) e xs (c.cur id)
  | .row e .froz _ xs => (∀ b, ¬ c.X id b) ∧ Rd T w c.Z (.sl e) (.sl xs) (c.cur id) ∧ (0 < xs.length → ∃ b cap, c.cur id = .slice (some ⟨b, 0, none⟩) xs.length cap)
  | .box t ls => ∃ b arr, c.cur id = .pointer (some ⟨b, 0, none⟩) ∧ w.heap[b]? = some (.cells arr t (0, 0)) ∧ (∀ k, c.X id k ↔ k = b) ∧ LRs T w c S nx ls arr.toList

structure Sat (T : TypeId → Option TI) (w : World) (c : Cx) (S : Sto) (nx : Nat) : Prop where
  os : ∀ id, OS T w c S nx id (geto S id)
  lt : ∀ id, nx ≤ id → geto S id = .dead
  disj : ∀ id id' b, c.X id b → c.X id' b → id = id'
  xz : ∀ id b, c.X id b → ¬ c.Z b
  zlt : ∀ b, c.Z b → b < w.heap.size
  xlt : ∀ id b, c.X id b → b < w.heap.size

/-- From one moment to a later one: what is neither only read nor one's own stays; what is only read stays. -/
structure Ext (w : World) (c : Cx) (w' : World) (c' : Cx) : Prop where
  os : w'.os = w.os
  tape : w'.tape = w.tape
  output : w'.output = w.output
  size : w.heap.size ≤ w'.heap.size
  keep : ∀ b, b < w.heap.size → (∀ id, ¬ c.X id b) → w'.heap[b]? = w.heap[b]?
  zup : ∀ b, c.Z b → c'.Z b
  znew : ∀ b, b < w.heap.size → c'.Z b → c.Z b ∨ ∃ id, c.X id b
  xnew : ∀ id b, b < w.heap.size → c'.X id b → ∃ id', c.X id' b

/-- The objects that were there live on where they were, or are dead. -/
def Stays (c : Cx) (S : Sto) (nx : Nat) (c' : Cx) (S' : Sto) : Prop :=
  ∀ id, id < nx →
    match geto S id, geto S' id with
    | _, .dead => True
    | .row e _ ver xs, .row e' _ ver' xs' => e' = e ∧ (ver < ver' ∨ (ver' = ver ∧ xs'.length = xs.length ∧ c'.cur id = c.cur id))
    | .box t _, .box t' _ => t' = t ∧ c'.cur id = c.cur id
    | _, _ => False

/-- A function is called: it is entered, or the model answers at once. -/
def Runs (P : Program) (f : FuncId) (us : Array Value) (w : World) (R : Ending → World → Prop) : Prop :=
  ((callFunc f us).run P w = .ok (.enter f us) w ∧ Calls P f us w R) ∨ ∃ u w', (callFunc f us).run P w = .ok (.value u) w' ∧ R (.returned u) w'
theorem Runs.mono {P : Program} {f : FuncId} {us : Array Value} {w : World} {R R' : Ending → World → Prop} (h : Runs P f us w R) (hr : ∀ e w', R e w' → R' e w') : Runs P f us w R' := by
  rcases h with ⟨h1, h2⟩ | ⟨u, w', h1, h2⟩
  · exact .inl ⟨h1, h2.mono hr⟩
  · exact .inr ⟨u, w', h1, hr _ _ h2⟩
/-- THE CONTRACT OF A CALL: with these values, over these objects, it returns, and what holds behind it. -/
def VC (P : Program) (T : TypeId → Option TI) (f : FuncId) (args : List V) (S : Sto) (nx : Nat) (post : V → Sto → Nat → Prop) : Prop :=
  ∀ (w : World) (c : Cx) (us : List Value), Sat T w c S nx → us.length = args.length → (∀ (j : Nat) (v : V) (u : Value), args[j]? = some v → us[j]? = some u → VR T w c S nx v u) →
    Runs P f us.toArray w fun e w' => ∃ u r S' nx' c', e = .returned u ∧ nx ≤ nx' ∧ Sat T w' c' S' nx' ∧ VR T w' c' S' nx' r u ∧ Ext w c w' c' ∧ Stays c S nx c' S' ∧ post r S' nx'
attribute [irreducible] VC
end Go.Proofs.Ytodhnbjncmihkaa.V
end

section
/- The symbolic machine V: the weakest precondition. Definitions alone. -/
set_option linter.unusedVariables false
namespace Go.Proofs.Ytodhnbjncmihkaa.V
open Go

/-- The value is looked at ahead of what follows. -/
def force (v : V) (K : V → Prop) : Prop :=
  match v with
  | .one l => K (.one l)
  | .agg ls => K (.agg ls)
  | .tup vs => K (.tup vs)
  | .junk => K .junk
def guardT : Bool → Prop → Prop
  | true, p => p
  | false, _ => False
/-! ### numbers of objects -/
def idsL : L → List Nat
  | .all id _ => [id]
  | .part id _ _ _ => [id]
  | .ptr id _ _ _ => [id]
  | .fn _ caps => caps
  | _ => []
def idsLs : List L → List Nat
  | [] => []
  | l :: ls => idsL l ++ idsLs ls
def idsV1 : V → List Nat
  | .one l => idsL l
  | .agg ls => idsLs ls
  | _ => []
def idsVs : List V → List Nat
  | [] => []
  | v :: vs => idsV1 v ++ idsVs vs
def mem (x : Nat) : List Nat → Bool
  | [] => false
  | y :: r => match Nat.beq x y with | true => true | false => mem x r
def addAll : List Nat → List Nat → List Nat
  | acc, [] => acc
  | acc, x :: r => match mem x acc with | true => addAll acc r | false => addAll (acc ++ [x]) r
def idsO : O → List Nat
  | .box _ ls => idsLs ls
  | _ => []
def moreIds (S : Sto) : List Nat → List Nat
  | [] => []
  | id :: r => idsO (geto S id) ++ moreIds S r
def close (S : Sto) : Nat → List Nat → List Nat
  | 0, acc => acc
  | n + 1, acc => close S n (addAll acc (moreIds S acc))
def pos (x : Nat) : List Nat → Option Nat
  | [] => none
  | y :: r => match Nat.beq x y with | true => some 0 | false => match pos x r with | some k => some (k + 1) | none => none
def renIds (b : List Nat) : List Nat → Option (List Nat)
  | [] => some []
  | x :: r => match pos x b, renIds b r with | some k, some ks => some (k :: ks) | _, _ => none
def renL (b : List Nat) : L → Option L
  | .all id v => match pos id b with | some k => some (.all k v) | none => none
  | .part id v lo n => match pos id b with | some k => some (.part k v lo n) | none => none
  | .ptr id v i j => match pos id b with | some k => some (.ptr k v i j) | none => none
  | .fn f caps => match renIds b caps with | some ks => some (.fn f ks) | none => none
  | l => some l
def renLs (b : List Nat) : List L → Option (List L)
  | [] => some []
  | l :: ls => match renL b l, renLs b ls with | some x, some xs => some (x :: xs) | _, _ => none
def renV1 (b : List Nat) : V → Option V
  | .one l => match renL b l with | some x => some (.one x) | none => none
  | .agg ls => match renLs b ls with | some xs => some (.agg xs) | none => none
  | _ => none
def renVs (b : List Nat) : List V → Option (List V)
  | [] => some []
  | v :: vs => match renV1 b v, renVs b vs with | some x, some xs => some (x :: xs) | _, _ => none
def renO (b : List Nat) : O → Option O
  | .box t ls => match renLs b ls with | some xs => some (.box t xs) | none => none
  | o => some o
def renS (b : List Nat) (S : Sto) : List Nat → Nat → Option Sto
  | [], _ => some []
  | id :: r, k => match renO b (geto S id), renS b S r (k + 1) with | some o, some T => some ((k, o) :: T) | _, _ => none
/-- Back again: object k of the call is b[k], or new. -/
def bk (b : List Nat) (nx : Nat) (k : Nat) : Nat :=
  match b with
  | [] => nx + k
  | x :: r => match k with | 0 => x | k + 1 => bk r nx k
def mapL (g : Nat → Nat) : L → L
  | .all id v => .all (g id) v
  | .part id v lo n => .part (g id) v lo n
  | .ptr id v i j => .ptr (g id) v i j
  | .fn f caps => .fn f (caps.map g)
  | l => l
def mapV1 (g : Nat → Nat) : V → V
  | .one l => .one (mapL g l)
  | .agg ls => .agg (ls.map (mapL g))
  | _ => .junk
def mapV (g : Nat → Nat) : V → V
  | .tup vs => .tup (vs.map (mapV1 g))
  | v => mapV1 g v
def mapO (g : Nat → Nat) : O → O
  | .box t ls => .box t (ls.map (mapL g))
  | o => o
def mapS (g : Nat → Nat) : Sto → Sto
  | [] => []
  | (k, o) :: r => (g k, mapO g o) :: mapS g r
def deads : List Nat → Sto
  | [] => []
  | id :: r => (id, .dead) :: deads r

/-! ### a call whose rows are only read -/
def viewL (T : TypeId → Option TI) (S : Sto) : L → Option L
  | .all id v => match shown S (.all id v) with | some (e, xs) => some (.ro e xs) | none => none
  | .part id v lo n => match shown S (.part id v lo n) with | some (e, xs) => some (.ro e xs) | none => none
  | .ptr id v i j => match geto S id with
    | .box t ls => match T t with
      | some ti => match viewDs S ti.ks ls with | some ds => some (.rptr ti.ks ds j) | none => none
      | none => none
    | .row e _ ver xs => match Nat.beq v ver, T e with | true, some ti => some (.rptr ti.ks (xs.getD i []) j) | _, _ => none
    | .dead => none
  | .fn f [] => some (.fn f [])
  | .fn _ _ => none
  | l => some l
def viewLs (T : TypeId → Option TI) (S : Sto) : List L → Option (List L)
  | [] => some []
  | l :: ls => match viewL T S l, viewLs T S ls with | some x, some xs => some (x :: xs) | _, _ => none
def viewV (T : TypeId → Option TI) (S : Sto) : V → Option V
  | .one l => match viewL T S l with | some x => some (.one x) | none => none
  | .agg ls => match viewLs T S ls with | some xs => some (.agg xs) | none => none
  | _ => none
def viewVs (T : TypeId → Option TI) (S : Sto) : List V → Option (List V)
  | [] => some []
  | v :: vs => match viewV T S v, viewVs T S vs with | some x, some xs => some (x :: xs) | _, _ => none
def noRoL : L → Bool
  | .ro _ [] => true
  | .ro _ _ => false
  | .rptr _ _ _ => false
  | _ => true
def noRoLs : List L → Bool
  | [] => true
  | l :: ls => match noRoL l with | true => noRoLs ls | false => false
def noRoV : V → Bool
  | .one l => noRoL l
  | .agg ls => noRoLs ls
  | .tup vs => vs.all fun v => match v with | .one l => noRoL l | .agg ls => noRoLs ls | _ => false
  | .junk => false
def noRoO : O → Bool
  | .dead => true
  | .row _ .tree _ _ => true
  | .row _ _ _ _ => false
  | .box _ ls => noRoLs ls
def noRoS : Sto → Bool
  | [] => true
  | (_, o) :: r => match noRoO o with | true => noRoS r | false => false
def freeze (S : Sto) : List Nat → Option Sto
  | [] => some []
  | id :: r => match geto S id, freeze S r with
    | .row e _ v xs, some T => some ((id, .row e .froz v xs) :: T)
    | _, _ => none
def isNil : List Nat → Bool
  | [] => true
  | _ => false

section
variable (C : Cfg)
def argsOf (F : Frm) : List Operand → List V
  | [] => []
  | x :: r => ev F x :: argsOf F r
def capsV : List Nat → List V
  | [] => []
  | id :: r => .one (.ptr id 0 0 0) :: capsV r

def capIds : List V → Option (List Nat)
  | [] => some []
  | .one (.ptr id _ _ 0) :: r => match capIds r with | some ids => some (id :: ids) | none => none
  | _ => none
def boxesB (S : Sto) : List Nat → Bool
  | [] => true
  | id :: r => match geto S id with | .box _ _ => boxesB S r | _ => false
def callwp (f : FuncId) (args : List V) (S : Sto) (nx : Nat) (K : V → Sto → Nat → Prop) : Prop :=
  match C.loan f with
  | true =>
    match viewVs C.T S args with
    | some args' => fVs args' fun args' => VC C.P C.T f args' [] 0 fun r T n =>
      match isNil (idsVs args) with
      | true => K (mapV (bk [] nx) r) (mapS (bk [] nx) T ++ S) (nx + n)
      | false => match noRoV r && noRoS T with
        | true => K (mapV (bk [] nx) r) (mapS (bk [] nx) T ++ S) (nx + n)
        | false => match freeze S (close S 3 (addAll [] (idsVs args))) with
          | some Z => K (mapV (bk [] nx) r) (mapS (bk [] nx) T ++ (Z ++ S)) (nx + n)
          | none => False
    | none => False
  | false =>
    fNs (close S 3 (addAll [] (idsVs args))) fun b =>
      match renVs b args, renS b S b 0 with
      | some args', some S' => fVs args' fun args' => fS S' fun S' => VC C.P C.T f args' S' b.length fun r T n => K (mapV (bk b nx) r) (mapS (bk b nx) T ++ (deads b ++ S)) (nx + (n - b.length))
      | _, _ => False

/-- Where field f of a struct type begins. -/
def fieldOff : List (Nat × TypeId) → Nat → Option (Nat × TypeId)
  | [], _ => none
  | x :: _, 0 => some x
  | _ :: r, n + 1 => fieldOff r n
def intOf : V → Option Int
  | .one (.sc (.int _ n)) => some n
  | _ => none
def strOf : V → Option ByteArray
  | .one (.sc (.string s)) => some s
  | _ => none
def zeroLs : List LK → List L
  | [] => []
  | κ :: r => zeroL κ :: zeroLs r
def zeroDs : List LK → List D
  | [] => []
  | κ :: r => zeroD κ :: zeroDs r
def fillL (T : TypeId → Option TI) (fs : List (Nat × TypeId)) (F : Frm) : List L → List (Nat × Operand) → Option (List L)
  | ls, [] => some ls
  | ls, (f, x) :: r => match fieldOff fs f, lsOf (ev F x) with
    | some (o, ft), some vs => match T ft with
      | some fi => match Nat.beq vs.length fi.ks.length && Nat.ble (o + vs.length) ls.length with
        | true => fillL T fs F (splice ls o vs) r
        | false => none
      | none => none
    | _, _ => none
/-- The elements of a literal, from number j on. -/
def elemsD (ks : List LK) (F : Frm) : List (Nat × Operand) → Nat → RK → Sto → (List (List D) → RK → Sto → Prop) → Prop
  | [], _, q, S, K => K [] q S
  | (i, x) :: r, j, q, S, K =>
    match Nat.beq i j, lsOf (ev F x) with
    | true, some ls => toDs ks ls q S fun ds q S => elemsD ks F r (j + 1) q S fun xs q S => K (ds :: xs) q S
    | _, _ => False
def noSl : List LK → Bool
  | [] => true
  | .sl _ :: _ => false
  | _ :: r => noSl r
/-- What is appended: its elements; what the row becomes; the store behind it. -/
def takeIn (T : TypeId → Option TI) (e : TypeId) (q : RK) (S : Sto) (x : L) (K : List (List D) → RK → Sto → Prop) : Prop :=
  match T e with
  | none => False
  | some i =>
    match x with
    | .sc (.slice none 0 0) => K [] q S
    | .sc (.string s) => guardT (lksEq i.ks [.int .u8]) (K (s.data.toList.map fun b => [.sc (.int .u8 b.toNat)]) q S)
    | .ro e' xs => guardT (Nat.beq e e') (match noSl i.ks with | true => K xs q S | false => K xs .sh S)
    | .all id ver => match geto S id with
      | .row e' q' ver' xs => guardT (Nat.beq e e' && Nat.beq ver ver')
        (match noSl i.ks with
          | true => K xs q S
          | false => match q, q' with
            | .tree, .tree => K xs .tree ((id, .dead) :: S)
            | _, _ => K xs .sh ((id, .row e' .froz ver' xs) :: S))
      | _ => False
    | .part id ver lo n => match geto S id with
      | .row e' q' ver' xs => guardT (Nat.beq e e' && Nat.beq ver ver')
        (match noSl i.ks with
          | true => K ((xs.drop lo).take n) q S
          | false => K ((xs.drop lo).take n) .sh ((id, .row e' .froz ver' xs) :: S))
      | _ => False
    | _ => False
def appendwp (e : TypeId) (s x : L) (S : Sto) (nx : Nat) (K : V → Sto → Nat → Prop) : Prop :=
  match C.T e with
  | none => False
  | some i => guardT (Nat.ble 1 i.bytes)
    (match s with
    | .sc (.slice none 0 0) => takeIn C.T e .tree S x fun ys q S =>
      ys.length * i.bytes ≤ 140737488355328 ∧ K (.one (.all nx 0)) ((nx, .row e q 0 ys) :: S) (nx + 1)
    | .all id ver => match geto S id with
      | .row _ .froz _ _ => False
      | .row e' q ver' xs => guardT (Nat.beq e e' && Nat.beq ver ver' && !mem id (idsL x))
        (takeIn C.T e q S x fun ys q S => (xs.length + ys.length) * i.bytes ≤ 140737488355328 ∧ K (.one (.all id (ver + 1))) ((id, .row e q (ver + 1) (xs ++ ys)) :: S) nx)
      | _ => False
    | .part id ver 0 n => match geto S id with
      | .row _ .froz _ _ => False
      | .row e' q ver' xs => guardT (Nat.beq e e' && Nat.beq ver ver' && !mem id (idsL x))
        (takeIn C.T e q S x fun ys q S => (n + ys.length) * i.bytes ≤ 140737488355328 ∧ K (.one (.all id (ver + 1))) ((id, .row e q (ver + 1) (xs.take n ++ ys)) :: S) nx)
      | _ => False
    | _ => False)
def lenwp (d : TD) (S : Sto) (v : V) (K : V → Prop) : Prop :=
  match d, v with
  | .str, .one (.sc (.string s)) => s.size ≤ 9223372036854775807 → K (.one (.sc (.int .i64 s.size)))
  | .sl _, .one (.sc (.slice none 0 0)) => K (.one (.sc (.int .i64 0)))
  | .sl _, .one (.ro _ xs) => xs.length ≤ 9223372036854775807 → K (.one (.sc (.int .i64 xs.length)))
  | .sl _, .one (.all id ver) => match geto S id with
    | .row _ _ ver' xs => guardT (Nat.beq ver ver') (xs.length ≤ 9223372036854775807 → K (.one (.sc (.int .i64 xs.length))))
    | _ => False
  | .sl _, .one (.part id ver _ n) => match geto S id with
    | .row _ _ ver' _ => guardT (Nat.beq ver ver') (n ≤ 9223372036854775807 → K (.one (.sc (.int .i64 n))))
    | _ => False
  | _, _ => False
def loadwp (t : TypeId) (v : V) (S : Sto) (K : V → Sto → Prop) : Prop :=
  match C.T t, v with
  | some i, .one (.ptr id ver p j) =>
    match geto S id with
    | .box _ ls => guardT (Nat.ble (j + i.ks.length) ls.length) (force (mkV i (sub ls j i.ks.length)) fun v => K v S)
    | .row e q ver' xs => match C.T e with
      | some ie => guardT (Nat.beq ver ver' && lksEq (sub ie.ks j i.ks.length) i.ks)
        (leaves i.ks (xs.getD p []) j fun ls => match q, noSl i.ks with
          | .tree, false => force (mkV i ls) fun v => K v ((id, .row e .sh ver' xs) :: S)
          | _, _ => force (mkV i ls) fun v => K v S)
      | none => False
    | .dead => False
  | some i, .one (.rptr ks ds j) => guardT (lksEq (sub ks j i.ks.length) i.ks) (leaves i.ks ds j fun ls => force (mkV i ls) fun v => K v S)
  | _, _ => False
def storewp (t : TypeId) (v x : V) (S : Sto) (K : Sto → Prop) : Prop :=
  match C.T t, v, lsOf x with
  | some i, .one (.ptr id ver p j), some vs =>
    match geto S id with
    | .box bt ls => guardT (Nat.beq vs.length i.ks.length && Nat.ble (j + vs.length) ls.length) (K ((id, .box bt (splice ls j vs)) :: S))
    | .row _ .froz _ _ => False
    | .row e q ver' xs => match C.T e with
      | some ie => guardT (Nat.beq ver ver' && lksEq (sub ie.ks j i.ks.length) i.ks && Nat.beq vs.length i.ks.length && Nat.ble (j + i.ks.length) ie.ks.length)
        (guardT (!mem id (idsLs vs)) <| toDs i.ks vs q S fun ds q' S' =>
          match Nat.beq vs.length ie.ks.length with
          | true => K ((id, .row e q' ver' (xs.set p ds)) :: S')
          | false => K ((id, .row e q' ver' (xs.set p (splice (xs.getD p []) j ds))) :: S'))
      | none => False
    | .dead => False
  | _, _, _ => False
def indexwp (t : TypeId) (v ix : V) (S : Sto) (K : V → Prop) : Prop :=
  match C.T t, intOf ix with
  | some i, some n =>
    match i.d with
    | .sl e =>
      match v, C.T e with
      | .one (.ro e' xs), some ie => guardT (Nat.beq e e') ((0 ≤ n ∧ n < (xs.length : Int)) ∧ K (.one (.rptr ie.ks (xs.getD n.toNat []) 0)))
      | .one (.all id ver), some _ => match geto S id with
        | .row e' _ ver' xs => guardT (Nat.beq e e' && Nat.beq ver ver') ((0 ≤ n ∧ n < (xs.length : Int)) ∧ K (.one (.ptr id ver n.toNat 0)))
        | _ => False
      | .one (.part id ver lo len), some _ => match geto S id with
        | .row e' _ ver' xs => guardT (Nat.beq e e' && Nat.beq ver ver') ((0 ≤ n ∧ n < (len : Int)) ∧ K (.one (.ptr id ver (lo + n.toNat) 0)))
        | _ => False
      | _, _ => False
    | .arr len e =>
      match v, C.T e with
      | .one (.ptr id ver p j), some ie => (0 ≤ n ∧ n < (len : Int)) ∧ K (.one (.ptr id ver p (j + n.toNat * ie.ks.length)))
      | .one (.rptr ks ds j), some ie => (0 ≤ n ∧ n < (len : Int)) ∧ K (.one (.rptr ks ds (j + n.toNat * ie.ks.length)))
      | _, _ => False
    | _ => False
  | _, _ => False
/-- A bound of a slice expression, or what stands for it. -/
def boundOf (F : Frm) (x : Option Operand) : Option (Option Int) :=
  match x with
  | none => some none
  | some o => match intOf (ev F o) with | some n => some (some n) | none => none
def slicewp (d : TD) (F : Frm) (v : V) (lo hi : Option Operand) (S : Sto) (K : V → Prop) : Prop :=
  match boundOf F lo, boundOf F hi with
  | some l, some h =>
    match d, v with
    | .str, .one (.sc (.string s)) => match l, h with
      | none, none => K (.one (.sc (.string s)))
      | some a, none => (0 ≤ a ∧ a ≤ (s.size : Int)) ∧ K (.one (.sc (.string (s.extract a.toNat s.size))))
      | none, some b => (0 ≤ b ∧ b ≤ (s.size : Int)) ∧ K (.one (.sc (.string (s.extract 0 b.toNat))))
      | some a, some b => (0 ≤ a ∧ a ≤ b ∧ b ≤ (s.size : Int)) ∧ K (.one (.sc (.string (s.extract a.toNat b.toNat))))
    | .sl e', .one (.ro e xs) => guardT (Nat.beq e e') (match l, h with
      | none, none => K (.one (.ro e xs))
      | some a, none => (0 ≤ a ∧ a ≤ (xs.length : Int)) ∧ K (.one (.ro e (xs.drop a.toNat)))
      | none, some b => (0 ≤ b ∧ b ≤ (xs.length : Int)) ∧ K (.one (.ro e (xs.take b.toNat)))
      | some a, some b => (0 ≤ a ∧ a ≤ b ∧ b ≤ (xs.length : Int)) ∧ K (.one (.ro e ((xs.take b.toNat).drop a.toNat))))
    | .sl e', .one (.all id ver) => match geto S id with
      | .row e _ ver' xs => guardT (Nat.beq e e' && Nat.beq ver ver') (match l, h with
        | none, none => K (.one (.all id ver))
        | some a, none => (0 ≤ a ∧ a ≤ (xs.length : Int)) ∧ K (.one (.part id ver a.toNat (xs.length - a.toNat)))
        | none, some b => (0 ≤ b ∧ b ≤ (xs.length : Int)) ∧ K (.one (.part id ver 0 b.toNat))
        | some a, some b => (0 ≤ a ∧ a ≤ b ∧ b ≤ (xs.length : Int)) ∧ K (.one (.part id ver a.toNat (b.toNat - a.toNat))))
      | _ => False
    | .sl e', .one (.part id ver o n) => match geto S id with
      | .row e _ ver' xs => guardT (Nat.beq e e' && Nat.beq ver ver') (match l, h with
        | none, none => K (.one (.part id ver o n))
        | some a, none => (0 ≤ a ∧ a ≤ (n : Int)) ∧ K (.one (.part id ver (o + a.toNat) (n - a.toNat)))
        | none, some b => (0 ≤ b ∧ b ≤ (n : Int)) ∧ K (.one (.part id ver o b.toNat))
        | some a, some b => (0 ≤ a ∧ a ≤ b ∧ b ≤ (n : Int)) ∧ K (.one (.part id ver (o + a.toNat) (b.toNat - a.toNat))))
      | _ => False
    | _, _ => False
  | _, _ => False

def execwp (op : Op) (F : Frm) (S : Sto) (nx : Nat) (K : V → Sto → Nat → Prop) : Prop :=
  match op with
  | .move x => force (ev F x) fun v => K v S nx
  | .assign x => force (ev F x) fun v => K v S nx
  | .pick c a b => fork (ev F c) fun t => match t with | true => force (ev F a) fun v => K v S nx | false => force (ev F b) fun v => K v S nx
  | .alloc t => match C.T t with | some i => guardT (noOth i.ks) (K (.one (.ptr nx 0 0 0)) ((nx, .box t (zeroLs i.ks)) :: S) (nx + 1)) | none => False
  | .box t x => match C.T t, lsOf (ev F x) with
    | some i, some ls => guardT (Nat.beq ls.length i.ks.length) (K (.one (.ptr nx 0 0 0)) ((nx, .box t ls) :: S) (nx + 1))
    | _, _ => False
  | .build t parts => match C.T t with
    | some i => match i.d with
      | .st fs => match fillL C.T fs F (zeroLs i.ks) parts.toList with | some ls => guardT (noOth i.ks) (K (.agg ls) S nx) | none => False
      | _ => False
    | none => False
  | .buildSlice t len parts => match C.T t with
    | some i => match i.d with
      | .sl e => match C.T e with
        | some ie => guardT (Nat.ble len 4096 && Nat.ble (len * ie.ks.length) 4096 && Nat.beq len parts.toList.length) (elemsD ie.ks F parts.toList 0 .tree S fun xs q S => K (.one (.all nx 0)) ((nx, .row e q 0 xs) :: S) (nx + 1))
        | none => False
      | _ => False
    | none => False
  | .makeSlice t l c => match C.T t, intOf (ev F l), intOf (ev F c) with
    | some i, some n, some m => match i.d with
      | .sl e => match C.T e with
        | some ie => guardT (noOth ie.ks && Nat.ble 1 ie.bytes) (n = m ∧ (0 ≤ n ∧ (ie.bytes : Int) * n ≤ 140737488355328) ∧ K (.one (.all nx 0)) ((nx, .row e .tree 0 (List.replicate n.toNat (zeroDs ie.ks))) :: S) (nx + 1))
        | none => False
      | _ => False
    | _, _, _ => False
  | .load t x => loadwp C t (ev F x) S fun v S => K v S nx
  | .store t x y => storewp C t (ev F x) (ev F y) S fun S => K .junk S nx
  | .nilCheck x => match ev F x with
    | .one (.ptr id v i j) => K (.one (.ptr id v i j)) S nx
    | .one (.rptr ks ds j) => K (.one (.rptr ks ds j)) S nx
    | .one (.fn f cs) => K (.one (.fn f cs)) S nx
    | _ => False
  | .binOp op t x y _ => match ev F x, ev F y with
    | .one a, .one b => bin (match C.T t with | some i => (match i.d with | .bool => true | _ => false) | none => false) op a b fun l => K (.one l) S nx
    | _, _ => False
  | .unOp op _ x => match ev F x with
    | .one a => un op a fun l => K (.one l) S nx
    | _ => False
  | .convert s d x => match C.T s, C.T d, ev F x with
    | some _, some i, .one (.sc (.int k n)) => match i.d with
      | .int k' => match kEq k k' with | true => K (.one (.sc (.int k n))) S nx | false => K (.one (.sc (.int k' (k'.wrap n)))) S nx
      | _ => False
    | some _, some i, .one (.sc (.string s)) => match i.d with | .str => K (.one (.sc (.string s))) S nx | _ => False
    | _, _, _ => False
  | .slice t x lo hi none => match C.T t with | some i => guardT (match i.d with | .sl e => (match C.T e with | some _ => true | none => false) | _ => true) (slicewp i.d F (ev F x) lo hi S fun v => K v S nx) | none => False
  | .fieldAddr t x f => match C.T t with
    | some i => match i.d with
      | .st fs => match fieldOff fs f with
        | some (o, _) => match ev F x with
          | .one (.ptr id v p j) => K (.one (.ptr id v p (j + o))) S nx
          | .one (.rptr ks ds j) => K (.one (.rptr ks ds (j + o))) S nx
          | _ => False
        | none => False
      | _ => False
    | none => False
  | .field t x f => match C.T t, ev F x with
    | some i, .agg ls => match i.d with
      | .st fs => match fieldOff fs f with
        | some (o, ft) => match C.T ft with | some fi => guardT (Nat.ble (o + fi.ks.length) ls.length) (force (mkV fi (sub ls o fi.ks.length)) fun v => K v S nx) | none => False
        | none => False
      | _ => False
    | _, _ => False
  | .indexAddr t x ix => indexwp C t (ev F x) (ev F ix) S fun v => K v S nx
  | .index t x ix => match C.T t, strOf (ev F x), intOf (ev F ix) with
    | some i, some s, some n => match i.d with
      | .str => (0 ≤ n ∧ n < (s.size : Int)) ∧ K (.one (.sc (.int .u8 ((s.data.getD n.toNat 0).toNat : Int)))) S nx
      | _ => False
    | _, _, _ => False
  | .extract x j => match ev F x with
    | .tup vs => guardT (Nat.blt j vs.length) (force (vs.getD j .junk) fun v => K v S nx)
    | _ => False
  | .makeFunc (.func f) first caps => guardT (Nat.beq first.size 0) (match capIds (argsOf F caps.toList) with
    | some ids => guardT (boxesB S ids) (K (.one (.fn f ids)) S nx)
    | none => False)
  | .call c => match c.callee with
    | .builtin .len => match argsOf F c.args.toList, c.argTypes.toList with
      | [v], [t] => match C.T t with
        | some i => lenwp i.d S v fun v => K v S nx
        | none => False
      | _, _ => False
    | .builtin .append => match argsOf F c.args.toList, c.argTypes.toList with
      | [.one s, .one x], [t, u] => match C.T t, C.T u with
        | some i, some iu => match i.d with | .sl e => guardT (match iu.d with | .sl _ => true | .str => true | _ => false) (appendwp C e s x S nx K) | _ => False
        | _, _ => False
      | _, _ => False
    | .builtin .min => match argsOf F c.args.toList with
      | [.one (.sc (.int k a)), .one (.sc (.int k' b))] => guardT (kEq k k') (K (.one (.sc (.int k (if b < a then b else a)))) S nx)
      | _ => False
    | .builtin .max => match argsOf F c.args.toList with
      | [.one (.sc (.int k a)), .one (.sc (.int k' b))] => guardT (kEq k k') (K (.one (.sc (.int k (if b > a then b else a)))) S nx)
      | _ => False
    | .value g => match ev F g with
      | .one (.fn f caps) => guardT (boxesB S caps) (callwp C f (argsOf F c.args.toList ++ capsV caps) S nx K)
      | _ => False
    | _ => False
  | _ => False
end
end Go.Proofs.Ytodhnbjncmihkaa.V
end

section
/- The symbolic machine V: steps, states, and the weakest precondition of code. -/
set_option linter.unusedVariables false
set_option linter.unusedSimpArgs false
namespace Go.Proofs.Ytodhnbjncmihkaa.V
open Go

structure Step (T : TypeId → Option TI) (w : World) (c : Cx) (S : Sto) (nx : Nat) (w' : World) (c' : Cx) (S' : Sto) (nx' : Nat) : Prop where
  sat : Sat T w' c' S' nx'
  ext : Ext w c w' c'
  st : Stays c S nx c' S'
  nx : nx ≤ nx'

/-- A state of a frame. -/
structure SR (T : TypeId → Option TI) (w : World) (c : Cx) (s : St) (tmps : Array Value) : Prop where
  sat : Sat T w c s.S s.nx
  fr : ∀ t, VR T w c s.S s.nx (get s.F t) (tmps.getD t undef)

/-- Whatever is in state s is in state t (the objects below m0 being what they are). -/
def Le (T : TypeId → Option TI) (m0 : Nat) (s t : St) : Prop :=
  m0 ≤ s.nx → ∀ w c tmps, SR T w c s tmps → ∃ c', SR T w c' t tmps ∧ Ext w c w c' ∧ Stays c s.S m0 c' t.S ∧ m0 ≤ t.nx
attribute [irreducible] Le

section
variable (C : Cfg)
def dstAt : List Oper → Nat → Option Tmp
  | [], _ => none
  | o :: _, 0 => o.dst
  | _ :: r, n + 1 => dstAt r n
def bEq : Bool → Bool → Bool
  | true, b => b
  | false, true => false
  | false, false => true
def actB (op : Op) : Bool :=
  match op with
  | .alloc _ | .box _ _ | .buildSlice _ _ _ | .makeSlice _ _ _ | .store _ _ _ | .call _ => true
  | _ => false
/-- What an operation leaves, told plainly. -/
def opK (op : Op) (K : V → Sto → Nat → Prop) (v : V) (S : Sto) (nx : Nat) : Prop :=
  fV v fun v => match actB op with
    | true => fN nx fun nx => fS S fun S => K v S nx
    | false => K v S nx
/-- The bytes of a row. -/
def bytesOf (xs : List (List D)) : ByteArray := ⟨(xs.map fun x => UInt8.ofNat ((x.getD 0 default).int).toNat).toArray⟩
def isU8 : TD → Bool
  | .int .u8 => true
  | _ => false
/-- A row of bytes that becomes a text. -/
def convB (F : Frm) (S : Sto) (op : Op) : Option (List (List D)) :=
  match op with
  | .convert s d x => match C.T s, C.T d, ev F x with
    | some is, some id, .one l => match is.d, id.d with
      | .sl e, .str => match C.T e, shown S l with
        | some ie, some (e', xs) => match isU8 ie.d && lksEq ie.ks [.int .u8] && Nat.beq e e' with
          | true => some xs
          | false => none
        | _, _ => none
      | _, _ => none
    | _, _, _ => none
  | _ => none
def execx (op : Op) (F : Frm) (S : Sto) (nx : Nat) (K : V → Sto → Nat → Prop) : Prop :=
  match convB C F S op with
  | some xs => xs.length ≤ 9223372036854775807 → K (.one (.sc (.string (bytesOf xs)))) S nx
  | none => execwp C op F S nx K
def opwp (all : List Oper) (o : Oper) (F : Frm) (S : Sto) (nx : Nat) (K : Frm → Sto → Nat → Prop) : Prop :=
  match o.guard with
  | none => execx C o.op F S nx (opK o.op fun v S nx => match o.dst with | some d => K ((d, v) :: F) S nx | none => K F S nx)
  | some (g, want) =>
    match dstAt all g with
    | none => False
    | some t => match get F t with
      | .tup _ => match o.dst with | some d => K ((d, .tup []) :: F) S nx | none => K F S nx
      | v => fork v fun b =>
        match bEq b want with
        | true => execx C o.op F S nx (opK o.op fun v S nx => match o.dst with | some d => K ((d, v) :: (t, .one (.kb b)) :: F) S nx | none => K ((t, .one (.kb b)) :: F) S nx)
        | false => match o.dst with | some d => K ((d, .tup []) :: (t, .one (.kb b)) :: F) S nx | none => K ((t, .one (.kb b)) :: F) S nx
/-- A row within a row is handed to a call: the load, a copy, the call. -/
structure Nst where
  f : FuncId
  id : Nat
  e : TypeId
  ver : Nat
  xs : List (List D)
  p : Nat
  j : Nat
  i : TI
  e' : TypeId
  kv : L
  d1 : Tmp
  d2 : Tmp
  d3 : Tmp
def oneSl : List LK → Option TypeId
  | [.sl e] => some e
  | _ => none
def scOf : V → Option L
  | .one (.sc v) => some (.sc v)
  | _ => none
def isSlAt (e : TypeId) : Option LK → Bool
  | some (.sl e') => Nat.beq e e'
  | _ => false
def nestOf (o1 o2 o3 : Oper) (F : Frm) (S : Sto) : Option Nst :=
  match C.nest with
  | false => none
  | true => match o1.guard, o2.guard, o3.guard, o1.dst, o2.dst, o3.dst with
    | none, none, none, some d1, some d2, some d3 => match o1.op, o2.op, o3.op with
      | .load t x, .move y, .call c => match c.callee, c.args.toList with
        | .value (.func f), [.tmp a1, .tmp a2] => match ev F x, C.T t, scOf (ev F y), Nat.beq a1 d1 && Nat.beq a2 d2 && !Nat.beq d1 d2 && !looksT d1 [y] with
          | .one (.ptr id ver p j), some i, some kv, true => match geto S id, oneSl i.ks with
            | .row e .tree ver' xs, some e' => match C.T e with
              | some ie => match Nat.beq ver ver' && isSlAt e' ie.ks[j]? with
                | true => some ⟨f, id, e, ver, xs, p, j, i, e', kv, d1, d2, d3⟩
                | false => none
              | none => none
            | _, _ => none
          | _, _, _, _ => none
        | _, _ => none
      | _, _, _ => none
    | _, _, _, _, _, _ => none
  where
  looksT (t : Nat) : List Operand → Bool
    | [] => false
    | .tmp u :: r => match Nat.beq t u with | true => true | false => looksT t r
    | _ :: r => looksT t r
def nestwp (N : Nst) (F : Frm) (S : Sto) (nx : Nat) (K : Frm → Sto → Nat → Prop) : Prop :=
  VC C.P C.T N.f [mkV N.i [.all 0 0], .one N.kv] [(0, .row N.e' .tree 0 ((N.xs.getD N.p []).getD N.j default).rows)] 1 fun r T n =>
    match r with
    | .one (.sc v) => match geto T 0 with
      | .row _ .tree 0 ys => K ((N.d3, .one (.sc v)) :: (N.d2, .one N.kv) :: (N.d1, .junk) :: F) ((N.id, .row N.e .tree N.ver (N.xs.set N.p ((N.xs.getD N.p []).set N.j (.sl ys)))) :: S) nx
      | _ => False
    | _ => False
def opswp (all : List Oper) : List Oper → Frm → Sto → Nat → (Frm → Sto → Nat → Prop) → Prop
  | o1 :: o2 :: o3 :: r, F, S, nx, K => match nestOf C o1 o2 o3 F S with
    | some N => nestwp C N F S nx fun F S nx => opswp all r F S nx K
    | none => opwp C all o1 F S nx fun F S nx => opswp all (o2 :: o3 :: r) F S nx K
  | [o1, o2], F, S, nx, K => opwp C all o1 F S nx fun F S nx => opwp C all o2 F S nx K
  | [o1], F, S, nx, K => opwp C all o1 F S nx K
  | [], F, S, nx, K => K F S nx

/-! ### a region whose order is open: reads run as soon as they can; of the rest, each that can come next comes -/
def bindsE (e : Edge) : Bool :=
  match e.ground with
  | .textOnly _ => false
  | .gcOnly _ => false
  | _ => true
def aftL : List Edge → Nat → Bool
  | [], _ => false
  | e :: r, i => match bindsE e with
    | true => (match Nat.beq e.on i with | true => true | false => aftL r i)
    | false => aftL r i
/-- Operation i stands ahead of o. -/
def aft (o : Oper) (i : Nat) : Bool := aftL o.after.toList i
def readyL (done : List Nat) : List Edge → Bool
  | [] => true
  | e :: r => match bindsE e with
    | true => (match mem e.on done with | true => readyL done r | false => false)
    | false => readyL done r
/-- It only reads, into a place of its own. -/
def isRd (o : Oper) : Bool :=
  match o.dst with
  | none => false
  | some _ => match o.op with
    | .move _ | .pick _ _ _ | .build _ _ | .load _ _ | .nilCheck _ | .binOp _ _ _ _ _ | .unOp _ _ _ | .convert _ _ _ | .slice _ _ _ _ _
    | .fieldAddr _ _ _ | .field _ _ _ | .indexAddr _ _ _ | .index _ _ _ | .extract _ _ | .makeFunc _ _ _ => true
    | .call c => match c.callee with
      | .builtin .len | .builtin .min | .builtin .max => true
      | _ => false
    | _ => false
def isR : V → Bool
  | .one (.rptr _ _ _) => true
  | _ => false
/-- A load out of what is one's own. -/
def ownLoad (F : Frm) (o : Oper) : Bool :=
  match o.op with
  | .load _ x => !isR (ev F x)
  | .convert _ _ x => match ev F x with
    | .one (.sc _) => false
    | .one (.ro _ _) => false
    | _ => true
  | _ => false
/-- A call that is handed nothing of one's own, or only to be read. -/
def quietB (f : FuncId) (args : List V) : Bool :=
  match C.loan f with
  | true => true
  | false => isNil (idsVs args)
/-- What was there stays as it was. -/
def quietOp (F : Frm) (op : Op) : Bool :=
  match op with
  | .alloc _ | .box _ _ | .buildSlice _ _ _ | .makeSlice _ _ _ | .assign _ => true
  | .call c => match c.callee with
    | .value g => match ev F g with
      | .one (.fn f caps) => quietB C f (argsOf F c.args.toList ++ capsV caps)
      | _ => false
    | _ => false
  | _ => false
/-- Each of these stands ahead of o. -/
def stableL (o : Oper) : List Nat → Bool
  | [] => true
  | i :: r => match aft o i with | true => stableL o r | false => false
/-- The reads that can run now, in the text's order; then K, told what is done and what has been read of one's own. -/
def floatwp (all : List Oper) : List Oper → Nat → List Nat → List Nat → Frm → Sto → Nat → (List Nat → List Nat → Frm → Sto → Nat → Prop) → Prop
  | [], _, done, rs, F, S, nx, K => K done rs F S nx
  | o :: r, i, done, rs, F, S, nx, K =>
    match isRd o && !mem i done && readyL done o.after.toList with
    | true => opwp C all o F S nx fun F' S' nx' => floatwp all r (i + 1) (i :: done) (match ownLoad F o with | true => i :: rs | false => rs) F' S' nx' K
    | false => floatwp all r (i + 1) done rs F S nx K
def actswp (all : List Oper) (done rs : List Nat) (F : Frm) (S : Sto) (nx : Nat) (K : List Nat → Frm → Sto → Nat → Prop) (last : Prop) : List Oper → Nat → Bool → Prop
  | [], _, true => last
  | [], _, false => True
  | o :: r, i, f =>
    match !mem i done && readyL done o.after.toList with
    | true => guardT (quietOp C F o.op || stableL o rs) (opwp C all o F S nx fun F' S' nx' => K (i :: done) F' S' nx') ∧ actswp all done rs F S nx K last r (i + 1) false
    | false => actswp all done rs F S nx K last r (i + 1) f
def allIn (done : List Nat) : List Oper → Nat → Bool
  | [], _ => true
  | _ :: r, i => match mem i done with | true => allIn done r (i + 1) | false => false
def drawwp (all : List Oper) : Nat → List Nat → List Nat → Frm → Sto → Nat → (Frm → Sto → Nat → Prop) → Prop
  | 0, _, _, _, _, _, _ => False
  | n + 1, done, rs, F, S, nx, K => floatwp C all all 0 done rs F S nx fun done rs F S nx =>
    actswp C all done rs F S nx (fun done F S nx => drawwp all n done rs F S nx K) (guardT (allIn done all 0) (K F S nx)) all 0 true
/-! What is asked of a region's edges. -/
def looksT (t : Nat) : List Operand → Bool
  | [] => false
  | .tmp u :: r => match Nat.beq t u with | true => true | false => looksT t r
  | _ :: r => looksT t r
def looks (all : List Oper) (t : Nat) (o : Oper) : Bool :=
  match looksT t o.op.operands.toList with
  | true => true
  | false => match o.guard with
    | none => false
    | some (g, _) => match dstAt all g with | none => false | some u => Nat.beq t u
def dstIs (o : Oper) (t : Nat) : Bool :=
  match o.dst with
  | none => false
  | some d => Nat.beq d t
/-- A read i with the place t: nobody else writes there, and whoever looks there stands behind it. -/
def readOk (all : List Oper) (i t : Nat) : List Oper → Nat → Bool
  | [], _ => true
  | o :: r, j => match Nat.beq i j with
    | true => match looks all t o with | true => false | false => readOk all i t r (j + 1)
    | false => match !dstIs o t && (!looks all t o || aft o i) with | true => readOk all i t r (j + 1) | false => false
/-- An act k with the place t: a read that looks there stands ahead or behind. -/
def actOk (all : List Oper) (k t : Nat) (ok : Oper) : List Oper → Nat → Bool
  | [], _ => true
  | o :: r, j => match isRd o with
    | false => actOk all k t ok r (j + 1)
    | true => match !looks all t o || aft o k || aft ok j with | true => actOk all k t ok r (j + 1) | false => false
def backL (i : Nat) : List Edge → Bool
  | [] => true
  | e :: r => match bindsE e with | true => (match Nat.blt e.on i with | true => backL i r | false => false) | false => backL i r
def noSel (o : Oper) : Bool :=
  match o.op with
  | .select _ _ => false
  | _ => true
def drawOk (all : List Oper) : List Oper → Nat → Bool
  | [], _ => true
  | o :: r, i => match backL i o.after.toList && noSel o && (match o.dst with | none => true | some t => match isRd o with | true => readOk all i t all 0 | false => actOk all i t o all 0) with
    | true => drawOk all r (i + 1)
    | false => false

abbrev Post := Exit → Frm → Sto → Nat → Prop
def wp (m0 : Nat) : Code → Post → Frm → Sto → Nat → Prop
  | .skip, Q, F, S, nx => Q .normal F S nx
  | .label _, Q, F, S, nx => Q .normal F S nx
  | .seq a b, Q, F, S, nx => wp m0 a (fun e F S nx => match e with | .normal => wp m0 b Q F S nx | e => Q e F S nx) F S nx
  | .cond c a b, Q, F, S, nx => fork (ev F c) fun t => match t with | true => wp m0 a Q F S nx | false => wp m0 b Q F S nx
  | .block id c, Q, F, S, nx => wp m0 c (fun e F S nx => match e with
    | .exit k => match Nat.beq k id with | true => Q .normal F S nx | false => Q (.exit k) F S nx
    | e => Q e F S nx) F S nx
  | .exit id, Q, F, S, nx => Q (.exit id) F S nx
  | .ret, Q, F, S, nx => Q .ret F S nx
  | .region _ ops false, Q, F, S, nx => opswp C ops.toList ops.toList F S nx (Q .normal)
  | .region _ ops true, Q, F, S, nx => drawOk ops.toList ops.toList 0 = true ∧ drawwp C ops.toList (ops.toList.length + 1) [] [] F S nx (Q .normal)
  | .loop c, Q, F, S, nx => ∃ (α : Type) (st : α → St) (I : α → Prop) (m : α → Nat), (∃ x, Le C.T m0 ⟨F, S, nx⟩ (st x) ∧ I x) ∧
      ∀ x, I x → wp m0 c (fun e F S nx => match e with | .normal => ∃ y, Le C.T m0 ⟨F, S, nx⟩ (st y) ∧ I y ∧ m y < m x | e => Q e F S nx) (st x).F (st x).S (st x).nx
  | _, _, _, _, _ => False

/-- What a result is. -/
def resV (F : Frm) (S : Sto) : ResultVar → Option V
  | .tmp t => some (get F t)
  | .cell a t => match C.T t, get F a with
    | some i, .one (.ptr id _ _ j) => match geto S id with
      | .box _ ls => match Nat.ble (j + i.ks.length) ls.length with
        | true => some (mkV i (sub ls j i.ks.length))
        | false => none
      | _ => none
    | _, _ => none
def resVs (F : Frm) (S : Sto) : List ResultVar → Option (List V)
  | [] => some []
  | r :: rs => match resV C F S r, resVs F S rs with | some v, some vs => some (v :: vs) | _, _ => none
def retV (rs : List ResultVar) (F : Frm) (S : Sto) : Option V :=
  match rs with
  | [r] => resV C F S r
  | rs => match resVs C F S rs with | some vs => some (.tup vs) | none => none
/-- Truth values as they are told. -/
def normL : L → L
  | .kb b => .sc (.bool b)
  | l => l
def normLs : List L → List L
  | [] => []
  | l :: ls => normL l :: normLs ls
def normV1 : V → V
  | .one l => .one (normL l)
  | .agg ls => .agg (normLs ls)
  | v => v
def normVs : List V → List V
  | [] => []
  | v :: vs => normV1 v :: normVs vs
def normV : V → V
  | .tup vs => .tup (normVs vs)
  | v => normV1 v
/-! ### what a call leaves: its new rows are told at version 0, a slice that is nil as a row without elements -/
def curVer (S : Sto) (id v : Nat) : Bool :=
  match geto S id with
  | .row _ _ v' _ => Nat.beq v v'
  | _ => false
def allLt (m : Nat) : List Nat → Bool
  | [] => true
  | x :: r => match Nat.blt x m with | true => allLt m r | false => false
def resetL (m : Nat) (S : Sto) : L → Option L
  | .all id v => match Nat.blt id m with
    | true => some (.all id v)
    | false => match curVer S id v with | true => some (.all id 0) | false => none
  | .part id v lo n => match Nat.blt id m with
    | true => some (.part id v lo n)
    | false => match curVer S id v with | true => some (.part id 0 lo n) | false => none
  | .ptr id v i j => match Nat.blt id m with | true => some (.ptr id v i j) | false => none
  | .fn f caps => match allLt m caps with | true => some (.fn f caps) | false => none
  | l => some l
def resetLs (m : Nat) (S : Sto) : List L → Option (List L)
  | [] => some []
  | l :: ls => match resetL m S l, resetLs m S ls with | some x, some xs => some (x :: xs) | _, _ => none
def resetV1 (m : Nat) (S : Sto) : V → Option V
  | .one l => match resetL m S l with | some x => some (.one x) | none => none
  | .agg ls => match resetLs m S ls with | some xs => some (.agg xs) | none => none
  | _ => none
def resetVs (m : Nat) (S : Sto) : List V → Option (List V)
  | [] => some []
  | v :: vs => match resetV1 m S v, resetVs m S vs with | some x, some xs => some (x :: xs) | _, _ => none
def resetV (m : Nat) (S : Sto) : V → Option V
  | .tup vs => match resetVs m S vs with | some xs => some (.tup xs) | none => none
  | v => resetV1 m S v
def resetO (m : Nat) (S : Sto) (k : Nat) : O → Option O
  | .dead => some .dead
  | .row e q v xs => match Nat.blt k m with | true => some (.row e q v xs) | false => some (.row e q 0 xs)
  | .box t ls => match resetLs m S ls with | some xs => some (.box t xs) | none => none
def resetS (m : Nat) (S : Sto) : Sto → Option Sto
  | [] => some []
  | (k, o) :: r => match resetO m S k o, resetS m S r with | some x, some xs => some ((k, x) :: xs) | _, _ => none
def hasKey (n : Nat) : Sto → Bool
  | [] => false
  | (k, _) :: r => match Nat.beq k n with | true => true | false => hasKey n r
def fillL1 (κ : LK) (l : L) (S : Sto) (n : Nat) : L × Sto × Nat :=
  match κ, l, hasKey n S with
  | .sl e, .sc (.slice none 0 0), false => (.all n 0, S ++ [(n, .row e .tree 0 [])], n + 1)
  | _, l, _ => (l, S, n)
def fillLs1 : List LK → List L → Sto → Nat → List L × Sto × Nat
  | κ :: ks, l :: ls, S, n => match fillL1 κ l S n with
    | (l', S', n') => match fillLs1 ks ls S' n' with
      | (ls', S'', n'') => (l' :: ls', S'', n'')
  | _, ls, S, n => (ls, S, n)
def fillV1 (T : TypeId → Option TI) (t : TypeId) (v : V) (S : Sto) (n : Nat) : V × Sto × Nat :=
  match T t, v with
  | some i, .one l => match fillLs1 i.ks [l] S n with
    | ([l'], S', n') => (.one l', S', n')
    | _ => (.one l, S, n)
  | some i, .agg ls => match fillLs1 i.ks ls S n with
    | (ls', S', n') => (.agg ls', S', n')
  | _, v => (v, S, n)
def fillVs (T : TypeId → Option TI) : List TypeId → List V → Sto → Nat → List V × Sto × Nat
  | t :: ts, v :: vs, S, n => match fillV1 T t v S n with
    | (v', S', n') => match fillVs T ts vs S' n' with
      | (vs', S'', n'') => (v' :: vs', S'', n'')
  | _, vs, S, n => (vs, S, n)
def fillV (T : TypeId → Option TI) (ts : List TypeId) (v : V) (S : Sto) (n : Nat) : V × Sto × Nat :=
  match v, ts with
  | .tup vs, ts => match fillVs T ts vs S n with | (vs', S', n') => (.tup vs', S', n')
  | v, [t] => fillV1 T t v S n
  | v, _ => (v, S, n)
def canon (T : TypeId → Option TI) (m : Nat) (ts : List TypeId) (r : V) (S : Sto) (n : Nat) : V × Sto × Nat :=
  match resetV m S r, resetS m S S with
  | some r', some S' => fillV T ts r' S' n
  | _, _ => fillV T ts r S n
/-- The end of a call: its results, over the objects that were handed in and those that the results lead to. -/
def retwp (rs : List ResultVar) (ts : List TypeId) (m0 : Nat) (post : V → Sto → Nat → Prop) : Post
  | .exit _, _, _, _ => False
  | .goto _, _, _, _ => False
  | .panic _, _, _, _ => False
  | .outgrown, _, _, _ => False
  | _, F, S, nx => match retV C rs F S with
    | some r => fNs (close S 3 (addAll (first m0) (idsTop r))) fun b =>
      match renTop b r, renS b S b 0 with
      | some r', some S' => fV (normV r') fun r1 => fS S' fun S1 => match canon C.T m0 ts r1 S1 b.length with
        | (r2, S2, n2) => fV r2 fun r2 => fS S2 fun S2 => fN n2 fun n2 => post r2 S2 n2
      | _, _ => False
    | none => False
  where
  first : Nat → List Nat
    | 0 => []
    | n + 1 => first n ++ [n]
  renTop (b : List Nat) : V → Option V
    | .tup vs => match renVs b vs with | some xs => some (.tup xs) | none => none
    | v => renV1 b v
  idsTop : V → List Nat
    | .tup vs => idsVs vs
    | v => idsV1 v
end
end Go.Proofs.Ytodhnbjncmihkaa.V
end

section
/- The symbolic machine V: what stays true as memory grows. -/
set_option linter.unusedVariables false
set_option linter.unusedSimpArgs false
namespace Go.Proofs.Ytodhnbjncmihkaa.V
open Go
variable {T : TypeId → Option TI}

theorem fN_eq {n : Nat} {K : Nat → Prop} (h : fN n K) : K n := by
  unfold fN at h
  split at h <;> exact h
theorem fNs_eq : ∀ {l : List Nat} {K : List Nat → Prop}, fNs l K → K l
  | [], K, h => h
  | n :: r, K, h => fNs_eq (K := fun r => K (n :: r)) (fN_eq (K := fun n => fNs r fun r => K (n :: r)) h)
theorem fL_eq {l : L} {K : L → Prop} (h : fL l K) : K l := by
  cases l with
  | all id v => exact fN_eq (K := fun id => K (.all id v)) h
  | part id v lo n => exact fN_eq (K := fun id => K (.part id v lo n)) h
  | ptr id v i j => exact fN_eq (K := fun id => K (.ptr id v i j)) h
  | fn f caps => exact fNs_eq (K := fun caps => K (.fn f caps)) h
  | _ => exact h
theorem fLs_eq : ∀ {l : List L} {K : List L → Prop}, fLs l K → K l
  | [], K, h => h
  | n :: r, K, h => fLs_eq (K := fun r => K (n :: r)) (fL_eq (K := fun n => fLs r fun r => K (n :: r)) h)
theorem fV1_eq {v : V} {K : V → Prop} (h : fV1 v K) : K v := by
  cases v with
  | one l => exact fL_eq (K := fun l => K (.one l)) h
  | agg ls => exact fLs_eq (K := fun ls => K (.agg ls)) h
  | _ => exact h
theorem fVs_eq : ∀ {l : List V} {K : List V → Prop}, fVs l K → K l
  | [], K, h => h
  | n :: r, K, h => fVs_eq (K := fun r => K (n :: r)) (fV1_eq (K := fun n => fVs r fun r => K (n :: r)) h)
theorem fV_eq {v : V} {K : V → Prop} (h : fV v K) : K v := by
  cases v with
  | one l => exact fL_eq (K := fun l => K (.one l)) h
  | agg ls => exact fLs_eq (K := fun ls => K (.agg ls)) h
  | tup vs => exact fVs_eq (K := fun vs => K (.tup vs)) h
  | junk => exact h
theorem fO_eq {o : O} {K : O → Prop} (h : fO o K) : K o := by
  cases o with
  | dead => exact h
  | row e q v xs => cases q <;> exact h
  | box t ls => exact fLs_eq (K := fun ls => K (.box t ls)) h
theorem fS_eq : ∀ {l : Sto} {K : Sto → Prop}, fS l K → K l
  | [], K, h => h
  | (k, o) :: r, K, h => by
    have h1 := fN_eq (K := fun k => fO o fun o => fS r fun r => K ((k, o) :: r)) h
    have h2 := fO_eq (K := fun o => fS r fun r => K ((k, o) :: r)) h1
    exact fS_eq (K := fun r => K ((k, o) :: r)) h2
theorem opK_eq {op : Op} {K : V → Sto → Nat → Prop} {v : V} {S : Sto} {nx : Nat} (h : opK op K v S nx) : K v S nx := by
  have h1 : (match actB op with
    | true => fN nx fun nx => fS S fun S => K v S nx
    | false => K v S nx : Prop) := fV_eq (K := fun v => match actB op with
    | true => fN nx fun nx => fS S fun S => K v S nx
    | false => K v S nx) h
  split at h1
  · have h2 := fN_eq (K := fun nx => fS S fun S => K v S nx) h1
    exact fS_eq (K := fun S => K v S nx) h2
  · exact h1
theorem get_cons (k : Nat) (v : V) (r : Frm) (t : Nat) : get ((k, v) :: r) t = if k = t then v else get r t := by
  by_cases h : k = t
  · subst h; simp [get]
  · have : Nat.beq k t = false := Bool.eq_false_iff.2 fun h' => h (Nat.eq_of_beq_eq_true h')
    simp [get, this, h]
theorem geto_cons (k : Nat) (v : O) (r : Sto) (t : Nat) : geto ((k, v) :: r) t = if k = t then v else geto r t := by
  by_cases h : k = t
  · subst h; simp [geto]
  · have : Nat.beq k t = false := Bool.eq_false_iff.2 fun h' => h (Nat.eq_of_beq_eq_true h')
    simp [geto, this, h]
theorem beq_t {a b : Nat} (h : Nat.beq a b = true) : a = b := Nat.eq_of_beq_eq_true h
theorem kEq_t {a b : IntKind} (h : kEq a b = true) : a = b := by cases a <;> cases b <;> first | rfl | simp [kEq] at h
theorem lkEq_t {a b : LK} (h : lkEq a b = true) : a = b := by
  cases a <;> cases b <;> first | rfl | (simp [lkEq] at h; done) | skip
  · rw [kEq_t h]
  · rw [beq_t h]
theorem lksEq_t : ∀ {a b : List LK}, lksEq a b = true → a = b
  | [], [], _ => rfl
  | [], _ :: _, h => by simp [lksEq] at h
  | _ :: _, [], h => by simp [lksEq] at h
  | x :: a, y :: b, h => by
    simp only [lksEq] at h
    split at h
    · rename_i h'; rw [lkEq_t h', lksEq_t h]
    · simp at h

/-! ### what is only read -/
theorem cell_eq {w w' : World} {a : Addr} (h : w'.heap[a.block]? = w.heap[a.block]?) : w'.cell? a = w.cell? a := by
  simp only [World.cell?, h]
theorem block_add (a : Addr) (n : Nat) : (a.add n).block = a.block := by unfold Addr.add; split <;> rfl
theorem Rd.mono {w w' : World} {Z Z' : Nat → Prop} (hw : ∀ b, Z b → w'.heap[b]? = w.heap[b]?) (hz : ∀ b, Z b → Z' b) {κ : LK} {d : D} {u : Value} (h : Rd T w Z κ d u) : Rd T w' Z' κ d u := by
  induction h with
  | int h => exact .int h
  | bool b => exact .bool b
  | str h => exact .str h
  | nil => exact .nil
  | sl u hT hm hle hZ hs hx hc hr ih =>
    exact .sl u hT hm hle (hz _ hZ) hs hx (fun p j h1 h2 => (cell_eq (by rw [block_add]; exact hw _ hZ)).trans (hc p j h1 h2)) (fun p x j κ d h1 h2 h3 => ih p x j κ d h1 h2 h3)
theorem Rd.one {w : World} {Z : Nat → Prop} {κ : LK} {d : D} {u : Value} (h : Rd T w Z κ d u) : u.oneCell' = true := by cases h <;> rfl
theorem Ow.mono {w w' : World} {X : Nat → Prop} {κ : LK} {d : D} {u : Value} (h : Ow T w X κ d u) : (∀ b, X b → w'.heap[b]? = w.heap[b]?) → Ow T w' X κ d u := by
  induction h with
  | int hX h => exact fun _ => .int hX h
  | bool hX b => exact fun _ => .bool hX b
  | str hX h => exact fun _ => .str hX h
  | nil hX => exact fun _ => .nil hX
  | @sl X e i xs b arr cap u Y hT hm hb hcap hle hx hc hr hd hn hX ih =>
    intro hw
    refine .sl u Y hT hm ((hw b ((hX b).2 (.inl rfl))).trans hb) hcap hle hx hc (fun p x j κ d h1 h2 h3 => ih p x j κ d h1 h2 h3 fun k hk => hw k ((hX k).2 (.inr ⟨p, j, ?_, ?_, hk⟩))) hd hn hX
    · exact (List.getElem?_eq_some_iff.1 h1).1
    · exact (List.getElem?_eq_some_iff.1 h2).1
theorem Ow.one {w : World} {X : Nat → Prop} {κ : LK} {d : D} {u : Value} (h : Ow T w X κ d u) : u.oneCell' = true := by cases h <;> rfl
/-- A tree of one's own can be only read from now on. -/
theorem Ow.rd {w : World} {X Z : Nat → Prop} {κ : LK} {d : D} {u : Value} (h : Ow T w X κ d u) : (∀ b, X b → Z b) → Rd T w Z κ d u := by
  induction h with
  | int hX h => exact fun _ => .int h
  | bool hX b => exact fun _ => .bool b
  | str hX h => exact fun _ => .str h
  | nil hX => exact fun _ => .nil
  | @sl X e i xs b arr cap u Y hT hm hb hcap hle hx hc hr hd hn hX ih =>
    intro hz
    refine .sl u hT hm hle (hz b ((hX b).2 (.inl rfl))) rfl hx (fun p j h1 h2 => ?_) (fun p x j κ d h1 h2 h3 => ih p x j κ d h1 h2 h3 fun k hk => hz k ((hX k).2 (.inr ⟨p, j, ?_, ?_, hk⟩)))
    · have := hc p j h1 h2
      unfold Addr.add
      split
      · rename_i h0; simp only [World.cell?, hb]; simpa [h0] using this
      · simp only [World.cell?, hb]; simpa using this
    · exact (List.getElem?_eq_some_iff.1 h1).1
    · exact (List.getElem?_eq_some_iff.1 h2).1
theorem Sh.mono {w w' : World} {Z Z' X : Nat → Prop} (hw : ∀ b, Z b → w'.heap[b]? = w.heap[b]?) (hz : ∀ b, Z b → Z' b) (hx : ∀ b, X b → w'.heap[b]? = w.heap[b]?) {e : TypeId} {xs : List (List D)} {u : Value}
    (h : Sh T w Z X e xs u) : Sh T w' Z' X e xs u := by
  cases h with
  | nil hX => exact .nil hX
  | @sl i xs b arr cap u hT hm hb hcap hle hl hc hr hX => exact .sl u hT hm ((hx b ((hX b).2 rfl)).trans hb) hcap hle hl hc (fun p x j κ d h1 h2 h3 => (hr p x j κ d h1 h2 h3).mono hw hz) hX

/-! ### objects that stay -/
theorem Stays.refl (c : Cx) (S : Sto) (nx : Nat) : Stays c S nx c S := by
  intro id _
  cases h : geto S id <;> simp
theorem Stays.at {c c' : Cx} {S S' : Sto} {nx id : Nat} (h : Stays c S nx c' S') (hi : id < nx) {e k ver xs} (hr : geto S' id = .row e k ver xs) :
    ∃ k0 ver0 xs0, geto S id = .row e k0 ver0 xs0 ∧ (ver0 < ver ∨ (ver = ver0 ∧ xs.length = xs0.length ∧ c'.cur id = c.cur id)) := by
  have := h id hi
  rw [hr] at this
  cases hg : geto S id with
  | dead => rw [hg] at this; exact this.elim
  | box t ls => rw [hg] at this; exact this.elim
  | row e0 k0 ver0 xs0 => rw [hg] at this; obtain ⟨rfl, h2⟩ := this; exact ⟨k0, ver0, xs0, rfl, h2⟩
theorem Stays.atB {c c' : Cx} {S S' : Sto} {nx id : Nat} (h : Stays c S nx c' S') (hi : id < nx) {t ls} (hr : geto S' id = .box t ls) :
    ∃ ls0, geto S id = .box t ls0 ∧ c'.cur id = c.cur id := by
  have := h id hi
  rw [hr] at this
  cases hg : geto S id with
  | dead => rw [hg] at this; exact this.elim
  | row e0 k0 ver0 xs0 => rw [hg] at this; exact this.elim
  | box t0 ls0 => rw [hg] at this; obtain ⟨rfl, h2⟩ := this; exact ⟨ls0, rfl, h2⟩
theorem Stays.mk {c c' : Cx} {S S' : Sto} {nx : Nat}
    (hr : ∀ id e k ver xs, id < nx → geto S' id = .row e k ver xs → ∃ k0 ver0 xs0, geto S id = .row e k0 ver0 xs0 ∧ (ver0 < ver ∨ (ver = ver0 ∧ xs.length = xs0.length ∧ c'.cur id = c.cur id)))
    (hb : ∀ id t ls, id < nx → geto S' id = .box t ls → ∃ ls0, geto S id = .box t ls0 ∧ c'.cur id = c.cur id) : Stays c S nx c' S' := by
  intro id hi
  cases hg : geto S' id with
  | dead => cases geto S id <;> trivial
  | row e k ver xs =>
    obtain ⟨k0, ver0, xs0, h0, h1⟩ := hr id e k ver xs hi hg
    rw [h0]; exact ⟨rfl, h1⟩
  | box t ls =>
    obtain ⟨ls0, h0, h1⟩ := hb id t ls hi hg
    rw [h0]; exact ⟨rfl, h1⟩
theorem Stays.trans {c c1 c2 : Cx} {S S1 S2 : Sto} {nx nx1 : Nat} (h : Stays c S nx c1 S1) (h' : Stays c1 S1 nx1 c2 S2) (hn : nx ≤ nx1) : Stays c S nx c2 S2 := by
  refine .mk (fun id e k ver xs hi hr => ?_) (fun id t ls hi hr => ?_)
  · obtain ⟨k1, v1, x1, h1, h2⟩ := h'.at (by omega) hr
    obtain ⟨k0, v0, x0, h3, h4⟩ := h.at hi h1
    refine ⟨k0, v0, x0, h3, ?_⟩
    rcases h2 with h2 | ⟨rfl, h2, h5⟩
    · rcases h4 with h4 | ⟨rfl, _, _⟩ <;> exact .inl (by omega)
    · rcases h4 with h4 | ⟨rfl, h6, h7⟩
      · exact .inl h4
      · exact .inr ⟨rfl, by omega, h5.trans h7⟩
  · obtain ⟨l1, h1, h2⟩ := h'.atB (by omega) hr
    obtain ⟨l0, h3, h4⟩ := h.atB hi h1
    exact ⟨l0, h3, h2.trans h4⟩
theorem Stays.le {c c' : Cx} {S S' : Sto} {nx n0 : Nat} (h : Stays c S nx c' S') (hn : n0 ≤ nx) : Stays c S n0 c' S' := fun id hi => h id (by omega)

theorem Ext.refl (w : World) (c : Cx) : Ext w c w c := ⟨rfl, rfl, rfl, Nat.le_refl _, fun _ _ _ => rfl, fun _ h => h, fun _ _ h => .inl h, fun id _ _ h => ⟨id, h⟩⟩
theorem Ext.trans {w w1 w2 : World} {c c1 c2 : Cx} (h : Ext w c w1 c1) (h' : Ext w1 c1 w2 c2) : Ext w c w2 c2 := by
  refine ⟨h'.os.trans h.os, h'.tape.trans h.tape, h'.output.trans h.output, Nat.le_trans h.size h'.size, fun b hb hx => ?_, fun b hb => h'.zup b (h.zup b hb), fun b hb hz => ?_, fun id b hb hx => ?_⟩
  · refine (h'.keep b (Nat.lt_of_lt_of_le hb h.size) fun id hid => ?_).trans (h.keep b hb hx)
    obtain ⟨i, hi⟩ := h.xnew id b hb hid
    exact hx i hi
  · rcases h'.znew b (Nat.lt_of_lt_of_le hb h.size) hz with h1 | ⟨id, h1⟩
    · exact h.znew b hb h1
    · exact .inr (h.xnew id b hb h1)
  · obtain ⟨i, hi⟩ := h'.xnew id b (Nat.lt_of_lt_of_le hb h.size) hx
    exact h.xnew i b hb hi

/-! ### values that stay -/
theorem LR.step {w w' : World} {c c' : Cx} {S S' : Sto} {nx nx' : Nat} (hs : Stays c S nx c' S') (hn : nx ≤ nx') (hw : ∀ b, c.Z b → w'.heap[b]? = w.heap[b]?) (hz : ∀ b, c.Z b → c'.Z b)
    {l : L} {u : Value} (h : LR T w c S nx l u) : LR T w' c' S' nx' l u := by
  cases l with
  | sc v => exact h
  | kb b => exact h
  | ro e xs => exact Rd.mono hw hz h
  | all id ver =>
    obtain ⟨h1, h2, h3⟩ := h
    refine ⟨by omega, h2, fun e k ver' xs hr => ?_⟩
    obtain ⟨k0, v0, x0, h4, h5⟩ := hs.at h1 hr
    obtain ⟨h6, h7⟩ := h3 _ _ _ _ h4
    rcases h5 with h5 | ⟨rfl, h8, h9⟩
    · exact ⟨by omega, fun he => by omega⟩
    · exact ⟨h6, fun he => (h7 he).trans h9.symm⟩
  | part id ver lo n =>
    obtain ⟨h1, h2, h3⟩ := h
    refine ⟨by omega, h2, fun e k ver' xs hr => ?_⟩
    obtain ⟨k0, v0, x0, h4, h5⟩ := hs.at h1 hr
    obtain ⟨h6, h7⟩ := h3 _ _ _ _ h4
    rcases h5 with h5 | ⟨rfl, h8, h9⟩
    · exact ⟨by omega, fun he => by omega⟩
    · refine ⟨h6, fun he => ?_⟩
      rw [h8, h9]
      exact h7 he
  | ptr id ver p j =>
    obtain ⟨h1, h2, h3, h3b⟩ := h
    refine ⟨by omega, h2, fun e k ver' xs hr => ?_, fun t ls hr => ?_⟩
    · obtain ⟨k0, v0, x0, h4, h5⟩ := hs.at h1 hr
      obtain ⟨h6, h7⟩ := h3 _ _ _ _ h4
      rcases h5 with h5 | ⟨rfl, h8, h9⟩
      · exact ⟨by omega, fun he => by omega⟩
      · refine ⟨h6, fun he => ?_⟩
        rw [h8, h9]
        exact h7 he
    · obtain ⟨l0, h4, h5⟩ := hs.atB h1 hr
      rw [h5]
      exact h3b _ _ h4
  | rptr ks ds j =>
    obtain ⟨a, h1, h2, h3, h4, h5⟩ := h
    refine ⟨a, h1, h2, hz _ h3, h4, fun q κ d hk hd => ?_⟩
    obtain ⟨v, h6, h7⟩ := h5 q κ d hk hd
    exact ⟨v, (cell_eq (by rw [block_add]; exact hw _ h3)).trans h6, h7.mono hw hz⟩
  | fn f caps =>
    obtain ⟨h1, us, h2, h3, h4⟩ := h
    refine ⟨fun id hi => Nat.lt_of_lt_of_le (h1 id hi) hn, us, h2, h3, fun q id hq => ?_⟩
    obtain ⟨x, h5, h6, h7⟩ := h4 q id hq
    refine ⟨x, h5, h6, fun t ls hr => ?_⟩
    obtain ⟨l0, h8, h9⟩ := hs.atB (h1 id (List.mem_of_getElem? hq)) hr
    exact (h7 _ _ h8).trans h9.symm
theorem LRs.step {w w' : World} {c c' : Cx} {S S' : Sto} {nx nx' : Nat} (hs : Stays c S nx c' S') (hn : nx ≤ nx') (hw : ∀ b, c.Z b → w'.heap[b]? = w.heap[b]?) (hz : ∀ b, c.Z b → c'.Z b)
    {ls : List L} {us : List Value} (h : LRs T w c S nx ls us) : LRs T w' c' S' nx' ls us :=
  ⟨h.1, fun j l hj => by obtain ⟨u, h1, h2⟩ := h.2 j l hj; exact ⟨u, h1, h2.step hs hn hw hz⟩⟩
theorem VR.step {w w' : World} {c c' : Cx} {S S' : Sto} {nx nx' : Nat} (hs : Stays c S nx c' S') (hn : nx ≤ nx') (hw : ∀ b, c.Z b → w'.heap[b]? = w.heap[b]?) (hz : ∀ b, c.Z b → c'.Z b)
    {v : V} {u : Value} (h : VR T w c S nx v u) : VR T w' c' S' nx' v u := by
  induction h with
  | one h => exact .one (h.step hs hn hw hz)
  | agg h => exact .agg (h.step hs hn hw hz)
  | tup hl h ih => exact .tup hl ih
  | junk => exact .junk
theorem LR.cell {w : World} {c : Cx} {S : Sto} {nx : Nat} {l : L} {u : Value} (h : LR T w c S nx l u) : u.oneCell' = true := by
  cases l with
  | sc v => obtain ⟨rfl, h, _⟩ := h; exact h
  | kb b => cases h; rfl
  | ro e xs => exact Rd.one h
  | all id ver => obtain ⟨_, ⟨A, n, m, rfl⟩, _⟩ := h; rfl
  | part id ver lo n => obtain ⟨_, ⟨A, m, rfl, _⟩, _⟩ := h; rfl
  | ptr id ver p j => obtain ⟨_, ⟨a, rfl⟩, _⟩ := h; rfl
  | rptr ks ds j => obtain ⟨a, rfl, _⟩ := h; rfl
  | fn f caps => obtain ⟨_, us, rfl, _⟩ := h; rfl

theorem Ext.zkeep {w w' : World} {c c' : Cx} {S : Sto} {nx : Nat} (h : Ext w c w' c') (hs : Sat T w c S nx) (b : Nat) (hb : c.Z b) : w'.heap[b]? = w.heap[b]? :=
  h.keep b (hs.zlt b hb) fun id hx => hs.xz id b hx hb
theorem Step.vr {w w' : World} {c c' : Cx} {S S' : Sto} {nx nx' : Nat} (h : Step T w c S nx w' c' S' nx') (hs : Sat T w c S nx) {v : V} {u : Value} (hv : VR T w c S nx v u) : VR T w' c' S' nx' v u :=
  hv.step h.st h.nx (h.ext.zkeep hs) h.ext.zup
theorem Step.refl {w : World} {c : Cx} {S : Sto} {nx : Nat} (hs : Sat T w c S nx) : Step T w c S nx w c S nx := ⟨hs, Ext.refl _ _, Stays.refl _ _ _, Nat.le_refl _⟩
theorem Step.trans {w w1 w2 : World} {c c1 c2 : Cx} {S S1 S2 : Sto} {nx nx1 nx2 : Nat} (h : Step T w c S nx w1 c1 S1 nx1) (h' : Step T w1 c1 S1 nx1 w2 c2 S2 nx2) : Step T w c S nx w2 c2 S2 nx2 :=
  ⟨h'.sat, h.ext.trans h'.ext, h.st.trans h'.st h.nx, Nat.le_trans h.nx h'.nx⟩

/-! ### one object turns -/
def up {α : Type} (f : Nat → α) (i : Nat) (v : α) : Nat → α := fun j => if j = i then v else f j
theorem up_same {α : Type} (f : Nat → α) (i : Nat) (v : α) : up f i v i = v := by simp [up]
theorem up_other {α : Type} (f : Nat → α) (i : Nat) (v : α) {j : Nat} (h : j ≠ i) : up f i v j = f j := by simp [up, h]
theorem OS.step {w w' : World} {c c' : Cx} {S S' : Sto} {nx nx' id : Nat} {o : O} (hs : Stays c S nx c' S') (hn : nx ≤ nx') (hw : ∀ b, c.Z b → w'.heap[b]? = w.heap[b]?) (hz : ∀ b, c.Z b → c'.Z b)
    (hx : ∀ b, c.X id b → w'.heap[b]? = w.heap[b]?) (hX : c'.X id = c.X id) (hc : c'.cur id = c.cur id) (h : OS T w c S nx id o) : OS T w' c' S' nx' id o := by
  cases o with
  | dead => simp only [OS] at h ⊢; rw [hX]; exact h
  | row e k ver xs =>
    cases k with
    | tree => simp only [OS] at h ⊢; rw [hX, hc]; exact h.mono hx
    | sh => simp only [OS] at h ⊢; rw [hX, hc]; exact h.mono hw hz hx
    | froz => simp only [OS] at h ⊢; rw [hX, hc]; exact ⟨h.1, h.2.1.mono hw hz, h.2.2⟩
  | box t ls =>
    simp only [OS] at h ⊢
    obtain ⟨b, arr, h1, h2, h3, h4⟩ := h
    rw [hX, hc]
    exact ⟨b, arr, h1, (hx b ((h3 b).2 rfl)).trans h2, h3, h4.step hs hn hw hz⟩
end Go.Proofs.Ytodhnbjncmihkaa.V
end

section
/- The symbolic machine V: steps of memory: a new object; an object whose cells turn; data that goes into a row. -/
set_option linter.unusedVariables false
set_option linter.unusedSimpArgs false
namespace Go.Proofs.Ytodhnbjncmihkaa.V
open Go
variable {T : TypeId → Option TI}

/-- Only what the step says of objects: the store is told anew. -/
theorem Sat.of {w w' : World} {c c' : Cx} {S S' : Sto} {nx nx' : Nat} (hs : Sat T w c S nx) (hst : Stays c S nx c' S') (hn : nx ≤ nx') (hsz : w.heap.size ≤ w'.heap.size)
    (hz : ∀ b, c.Z b → c'.Z b) (hw : ∀ b, c.Z b → w'.heap[b]? = w.heap[b]?)
    (ho : ∀ id, OS T w' c' S' nx' id (geto S' id) ∨ (geto S' id = geto S id ∧ c'.X id = c.X id ∧ c'.cur id = c.cur id ∧ ∀ b, c.X id b → w'.heap[b]? = w.heap[b]?))
    (hl : ∀ id, nx' ≤ id → geto S' id = .dead) (hd : ∀ id id' b, c'.X id b → c'.X id' b → id = id') (hxz : ∀ id b, c'.X id b → ¬ c'.Z b)
    (hzl : ∀ b, c'.Z b → b < w'.heap.size) (hxl : ∀ id b, c'.X id b → b < w'.heap.size) : Sat T w' c' S' nx' := by
  refine ⟨fun id => ?_, hl, hd, hxz, hzl, hxl⟩
  rcases ho id with h | ⟨h1, h2, h3, h4⟩
  · exact h
  · rw [h1]
    exact (hs.os id).step hst hn hw hz h4 h2 h3

theorem heap_alloc (w : World) (o : Obj) (b : Nat) : (w.alloc o).heap[b]? = if b = w.heap.size then some o else w.heap[b]? := by
  show (w.heap.push o)[b]? = _
  rw [Array.getElem?_push]

/-- The context with a new object. -/
def Cx.new (c : Cx) (nx : Nat) (val : Value) (X : Nat → Prop) : Cx := ⟨c.Z, up c.cur nx val, up c.X nx X⟩
/-- A new object, on a new block and on blocks that nobody has (Lo). -/
theorem Step.alloc {w : World} {c : Cx} {S : Sto} {nx : Nat} (hs : Sat T w c S nx) (o : O) (ob : Obj) (val : Value) (Lo : Nat → Prop)
    (hlo : ∀ b, Lo b → b < w.heap.size ∧ (∀ id, ¬ c.X id b) ∧ ¬ c.Z b)
    (hos : OS T (w.alloc ob) (c.new nx val fun k => k = w.heap.size ∨ Lo k) ((nx, o) :: S) (nx + 1) nx o) :
    Sat T (w.alloc ob) (c.new nx val fun k => k = w.heap.size ∨ Lo k) ((nx, o) :: S) (nx + 1) ∧
    Stays c S nx (c.new nx val fun k => k = w.heap.size ∨ Lo k) ((nx, o) :: S) := by
  have hst : Stays c S nx (c.new nx val fun k => k = w.heap.size ∨ Lo k) ((nx, o) :: S) := by
    refine .mk (fun id e k ver xs hi hr => ?_) (fun id t ls hi hr => ?_)
    · rw [geto_cons, if_neg (by omega)] at hr
      exact ⟨k, ver, xs, hr, .inr ⟨rfl, rfl, up_other _ _ _ (by omega)⟩⟩
    · rw [geto_cons, if_neg (by omega)] at hr
      exact ⟨ls, hr, up_other _ _ _ (by omega)⟩
  refine ⟨?_, hst⟩
  have hold : ∀ b, b < w.heap.size → (w.alloc ob).heap[b]? = w.heap[b]? := fun b hb => by rw [heap_alloc, if_neg (by omega)]
  refine hs.of hst (by omega) (by simp) (fun _ h => h) (fun b hb => hold b (hs.zlt b hb)) (fun id => ?_) (fun id hid => ?_) (fun id id' b h1 h2 => ?_) (fun id b h1 hz => ?_) (fun b hz => ?_) (fun id b h1 => ?_)
  · by_cases hid : id = nx
    · subst hid
      refine .inl ?_
      rw [geto_cons, if_pos rfl]
      exact hos
    · refine .inr ⟨by rw [geto_cons, if_neg (Ne.symm hid)], up_other _ _ _ hid, up_other _ _ _ hid, fun b hb => hold b (hs.xlt id b hb)⟩
  · rw [geto_cons, if_neg (by omega)]
    exact hs.lt id (by omega)
  · simp only [Cx.new, up] at h1 h2
    split at h1 <;> split at h2
    · omega
    · rcases h1 with h1 | h1
      · have := hs.xlt id' b h2; omega
      · exact absurd h2 ((hlo b h1).2.1 id')
    · rcases h2 with h2 | h2
      · have := hs.xlt id b h1; omega
      · exact absurd h1 ((hlo b h2).2.1 id)
    · exact hs.disj id id' b h1 h2
  · simp only [Cx.new, up] at h1 hz
    split at h1
    · rcases h1 with h1 | h1
      · have := hs.zlt b hz; omega
      · exact (hlo b h1).2.2 hz
    · exact hs.xz id b h1 hz
  · have := hs.zlt b hz
    simp; omega
  · simp only [Cx.new, up] at h1
    simp only [World.size_alloc]
    split at h1
    · rcases h1 with h1 | h1
      · omega
      · have := (hlo b h1).1; omega
    · have := hs.xlt id b h1; omega
/-- What is new in memory, and blocks that were one's own at c0. -/
theorem Ext.alloc_of {w0 w : World} {c0 c : Cx} {S : Sto} {nx : Nat} (h : Ext w0 c0 w c) (hs : Sat T w c S nx) (ob : Obj) (val : Value) (Lo : Nat → Prop)
    (hlo : ∀ b, Lo b → b < w0.heap.size → ∃ id, c0.X id b) : Ext w0 c0 (w.alloc ob) (c.new nx val fun k => k = w.heap.size ∨ Lo k) := by
  refine ⟨h.os, h.tape, h.output, by have := h.size; simp; omega, fun b hb hx => ?_, h.zup, h.znew, fun id b hb hx => ?_⟩
  · rw [heap_alloc, if_neg (by have := h.size; omega)]
    exact h.keep b hb hx
  · simp only [Cx.new, up] at hx
    split at hx
    · rcases hx with hx | hx
      · have := h.size; omega
      · exact hlo b hx hb
    · exact h.xnew id b hb hx

/-- One object turns: on its own blocks, on new ones, on blocks that nobody has; some of these are only read from now on. -/
theorem Sat.turn {w w' : World} {c c' : Cx} {S : Sto} {nx id0 : Nat} (hs : Sat T w c S nx) (hid : id0 < nx) (o : O) (hsz : w.heap.size ≤ w'.heap.size)
    (hw : ∀ b, b < w.heap.size → ¬ c.X id0 b → w'.heap[b]? = w.heap[b]?)
    (hcur : ∀ id, id ≠ id0 → c'.cur id = c.cur id) (hXo : ∀ id, id ≠ id0 → c'.X id = c.X id)
    (hX : ∀ b, c'.X id0 b → b < w'.heap.size ∧ ¬ c.Z b ∧ (∀ id, id ≠ id0 → ¬ c.X id b))
    (hz : ∀ b, c.Z b → c'.Z b) (hZ : ∀ b, c'.Z b → c.Z b ∨ (b < w'.heap.size ∧ (∀ id, id ≠ id0 → ¬ c.X id b) ∧ ¬ c'.X id0 b))
    (hst : Stays c S nx c' ((id0, o) :: S)) (hos : OS T w' c' ((id0, o) :: S) nx id0 o) : Sat T w' c' ((id0, o) :: S) nx := by
  have hzw : ∀ b, c.Z b → w'.heap[b]? = w.heap[b]? := fun b hb => hw b (hs.zlt b hb) fun h => hs.xz id0 b h hb
  refine hs.of hst (Nat.le_refl _) hsz hz hzw (fun id => ?_) (fun id h => ?_) (fun id id' b h1 h2 => ?_) (fun id b h1 h2 => ?_) (fun b h1 => ?_) (fun id b h1 => ?_)
  · by_cases h : id = id0
    · subst h; refine .inl ?_; rw [geto_cons, if_pos rfl]; exact hos
    · exact .inr ⟨by rw [geto_cons, if_neg (Ne.symm h)], hXo id h, hcur id h, fun b hb => hw b (hs.xlt id b hb) fun h' => h (hs.disj id id0 b hb h')⟩
  · rw [geto_cons, if_neg (by omega)]; exact hs.lt id h
  · by_cases e1 : id = id0 <;> by_cases e2 : id' = id0
    · omega
    · subst e1; rw [hXo id' e2] at h2; exact absurd h2 ((hX b h1).2.2 id' e2)
    · subst e2; rw [hXo id e1] at h1; exact absurd h1 ((hX b h2).2.2 id e1)
    · rw [hXo id e1] at h1; rw [hXo id' e2] at h2; exact hs.disj id id' b h1 h2
  · by_cases e1 : id = id0
    · subst e1
      rcases hZ b h2 with h3 | ⟨_, _, h3⟩
      · exact (hX b h1).2.1 h3
      · exact h3 h1
    · rw [hXo id e1] at h1
      rcases hZ b h2 with h3 | ⟨_, h3, _⟩
      · exact hs.xz id b h1 h3
      · exact h3 id e1 h1
  · rcases hZ b h1 with h3 | ⟨h3, _, _⟩
    · exact Nat.lt_of_lt_of_le (hs.zlt b h3) hsz
    · exact h3
  · by_cases e1 : id = id0
    · subst e1; exact (hX b h1).1
    · rw [hXo id e1] at h1; exact Nat.lt_of_lt_of_le (hs.xlt id b h1) hsz

/-! ### ghost steps: what is only read grows; an object is given up -/
/-- A step in which memory stays: its blocks Lo are nobody's now. -/
structure Gs (T : TypeId → Option TI) (w : World) (c : Cx) (S : Sto) (nx : Nat) (c' : Cx) (S' : Sto) (Lo : Nat → Prop) : Prop where
  sat : Sat T w c' S' nx
  st : Stays c S nx c' S'
  ext : Ext w c w c'
  lo : ∀ b, Lo b → b < w.heap.size ∧ (∀ id, ¬ c'.X id b) ∧ ¬ c'.Z b ∧ ∃ id, c.X id b
theorem Gs.refl {w : World} {c : Cx} {S : Sto} {nx : Nat} (hs : Sat T w c S nx) : Gs T w c S nx c S (fun _ => False) := ⟨hs, Stays.refl _ _ _, Ext.refl _ _, fun _ h => h.elim⟩
/-- What nobody had stays nobody's. -/
theorem Gs.keep {w : World} {c c1 c2 : Cx} {S S1 S2 : Sto} {nx : Nat} {Lo Lo' : Nat → Prop} (h : Gs T w c S nx c1 S1 Lo) (h' : Gs T w c1 S1 nx c2 S2 Lo') :
    ∀ b, Lo b → b < w.heap.size ∧ (∀ id, ¬ c2.X id b) ∧ ¬ c2.Z b ∧ ∃ id, c.X id b := fun b hb => by
  obtain ⟨h1, h2, h3, h4⟩ := h.lo b hb
  refine ⟨h1, fun id hx => ?_, fun hz => ?_, h4⟩
  · obtain ⟨i, hi⟩ := h'.ext.xnew id b h1 hx; exact h2 i hi
  · rcases h'.ext.znew b h1 hz with h5 | ⟨i, hi⟩
    · exact h3 h5
    · exact h2 i hi
theorem Gs.trans {w : World} {c c1 c2 : Cx} {S S1 S2 : Sto} {nx : Nat} {Lo Lo' : Nat → Prop} (h : Gs T w c S nx c1 S1 Lo) (h' : Gs T w c1 S1 nx c2 S2 Lo') :
    Gs T w c S nx c2 S2 (fun b => Lo b ∨ Lo' b) :=
  ⟨h'.sat, h.st.trans h'.st (Nat.le_refl _), h.ext.trans h'.ext, fun b hb => by
    rcases hb with hb | hb
    · exact h.keep h' b hb
    · obtain ⟨h1, h2, h3, i, hi⟩ := h'.lo b hb
      exact ⟨h1, h2, h3, h.ext.xnew i b h1 hi⟩⟩
theorem Gs.less {w : World} {c c1 : Cx} {S S1 : Sto} {nx : Nat} {Lo Lo' : Nat → Prop} (h : Gs T w c S nx c1 S1 Lo) (hl : ∀ b, Lo' b → Lo b) : Gs T w c S nx c1 S1 Lo' := ⟨h.sat, h.st, h.ext, fun b hb => h.lo b (hl b hb)⟩
def Cx.zup (c : Cx) (Y : Nat → Prop) : Cx := ⟨fun b => c.Z b ∨ Y b, c.cur, c.X⟩
/-- What nobody had is only read from now on. -/
theorem Gs.toZ {w : World} {c c1 : Cx} {S S1 : Sto} {nx : Nat} {Lo : Nat → Prop} (h : Gs T w c S nx c1 S1 Lo) (Y : Nat → Prop) (hY : ∀ b, Y b → Lo b) :
    Gs T w c S nx (c1.zup Y) S1 (fun b => Lo b ∧ ¬ Y b) := by
  have hst : Stays c1 S1 nx (c1.zup Y) S1 := Stays.refl c1 S1 nx
  refine ⟨?_, h.st.trans hst (Nat.le_refl _), ⟨h.ext.os, h.ext.tape, h.ext.output, h.ext.size, h.ext.keep, fun b hb => .inl (h.ext.zup b hb), fun b hb hz => ?_, h.ext.xnew⟩, fun b hb => ?_⟩
  · refine h.sat.of hst (Nat.le_refl _) (Nat.le_refl _) (fun _ hb => .inl hb) (fun _ _ => rfl) (fun id => .inr ⟨rfl, rfl, rfl, fun _ _ => rfl⟩) h.sat.lt h.sat.disj (fun id b hx hz => ?_) (fun b hz => ?_) h.sat.xlt
    · rcases hz with hz | hz
      · exact h.sat.xz id b hx hz
      · exact (h.lo b (hY b hz)).2.1 id hx
    · rcases hz with hz | hz
      · exact h.sat.zlt b hz
      · exact (h.lo b (hY b hz)).1
  · rcases hz with hz | hz
    · exact h.ext.znew b hb hz
    · exact .inr (h.lo b (hY b hz)).2.2.2
  · obtain ⟨h1, h2, h3, h4⟩ := h.lo b hb.1
    exact ⟨h1, h2, fun hz => hz.elim h3 hb.2, h4⟩
def Cx.give (c : Cx) (id : Nat) : Cx := ⟨c.Z, c.cur, up c.X id fun _ => False⟩
/-- An object is dead: its blocks are nobody's. -/
theorem Gs.give {w : World} {c : Cx} {S : Sto} {nx : Nat} (hs : Sat T w c S nx) {id : Nat} (hid : id < nx) : Gs T w c S nx (c.give id) ((id, .dead) :: S) (c.X id) := by
  have hst : Stays c S nx (c.give id) ((id, .dead) :: S) := by
    refine .mk (fun i e k ver xs hi hr => ?_) (fun i t ls hi hr => ?_)
    · rw [geto_cons] at hr; split at hr
      · cases hr
      · exact ⟨k, ver, xs, hr, .inr ⟨rfl, rfl, rfl⟩⟩
    · rw [geto_cons] at hr; split at hr
      · cases hr
      · exact ⟨ls, hr, rfl⟩
  refine ⟨?_, hst, ⟨rfl, rfl, rfl, Nat.le_refl _, fun _ _ _ => rfl, fun _ h => h, fun _ _ h => .inl h, fun i b _ hx => ?_⟩, fun b hb => ⟨hs.xlt id b hb, fun i hi => ?_, hs.xz id b hb, id, hb⟩⟩
  · refine hs.turn hid .dead (Nat.le_refl _) (fun _ _ _ => rfl) (fun _ _ => rfl) (fun i hi => up_other _ _ _ hi) (fun b hb => ?_) (fun _ h => h) (fun b hb => .inl hb) hst ?_
    · simp [Cx.give, up] at hb
    · simp [OS, Cx.give, up]
  · simp only [Cx.give, up] at hx; split at hx
    · exact hx.elim
    · exact ⟨i, hx⟩
  · simp only [Cx.give, up] at hi; split at hi
    · exact hi
    · rename_i h; exact h (hs.disj i id b hi hb)
def Cx.frz (c : Cx) (id : Nat) : Cx := ⟨fun b => c.Z b ∨ c.X id b, c.cur, up c.X id fun _ => False⟩
/-- What a row shows, as data that is only read, once its blocks are. -/
theorem OS.rd {w : World} {c : Cx} {S : Sto} {nx id : Nat} {e : TypeId} {k : RK} {ver : Nat} {xs : List (List D)} (h : OS T w c S nx id (.row e k ver xs)) :
    Rd T w (fun b => c.Z b ∨ c.X id b) (.sl e) (.sl xs) (c.cur id) := by
  cases k with
  | tree => exact Ow.rd h fun b hb => .inr hb
  | froz => exact h.2.1.mono (fun _ _ => rfl) fun b hb => .inl hb
  | sh =>
    simp only [OS] at h
    generalize c.cur id = v at h ⊢
    cases h with
    | nil hX => exact .nil
    | @sl i xs b arr cap u hT hm hb hcap hle hl hc hr hX =>
      refine .sl u hT hm hle (.inr ((hX b).2 rfl)) rfl hl (fun p j h1 h2 => ?_) (fun p x j κ d h1 h2 h3 => (hr p x j κ d h1 h2 h3).mono (fun _ _ => rfl) fun b hb => .inl hb)
      have := hc p j h1 h2
      unfold Addr.add
      split
      · rename_i h0; simp only [World.cell?, hb]; simpa [h0] using this
      · simp only [World.cell?, hb]; simpa using this
/-- Where a row lies. -/
theorem OS.cur {w : World} {c : Cx} {S : Sto} {nx id : Nat} {e : TypeId} {k : RK} {ver : Nat} {xs : List (List D)} (h : OS T w c S nx id (.row e k ver xs)) :
    0 < xs.length → ∃ b cap, c.cur id = .slice (some ⟨b, 0, none⟩) xs.length cap := by
  intro hp
  cases k with
  | froz => exact h.2.2 hp
  | tree =>
    simp only [OS] at h
    generalize c.cur id = v at h ⊢
    cases h with
    | nil => simp at hp
    | sl => exact ⟨_, _, rfl⟩
  | sh =>
    simp only [OS] at h
    generalize c.cur id = v at h ⊢
    cases h with
    | nil => simp at hp
    | sl => exact ⟨_, _, rfl⟩
/-- A row is only read from now on. -/
theorem Gs.freeze {w : World} {c : Cx} {S : Sto} {nx : Nat} (hs : Sat T w c S nx) {id : Nat} {e : TypeId} {k : RK} {ver : Nat} {xs : List (List D)} (hr : geto S id = .row e k ver xs) :
    Gs T w c S nx (c.frz id) ((id, .row e .froz ver xs) :: S) (fun _ => False) := by
  have hid : id < nx := by
    rcases Nat.lt_or_ge id nx with h | h
    · exact h
    · rw [hs.lt id h] at hr; cases hr
  have hst : Stays c S nx (c.frz id) ((id, .row e .froz ver xs) :: S) := by
    refine .mk (fun i e' k' ver' xs' hi hr' => ?_) (fun i t ls hi hr' => ?_)
    · rw [geto_cons] at hr'; split at hr'
      · rename_i h; subst h; cases hr'; exact ⟨k, ver, xs, hr, .inr ⟨rfl, rfl, rfl⟩⟩
      · exact ⟨k', ver', xs', hr', .inr ⟨rfl, rfl, rfl⟩⟩
    · rw [geto_cons] at hr'; split at hr'
      · cases hr'
      · exact ⟨ls, hr', rfl⟩
  refine ⟨?_, hst, ⟨rfl, rfl, rfl, Nat.le_refl _, fun _ _ _ => rfl, fun _ h => .inl h, fun _ _ h => h.imp (fun h => h) fun h => ⟨_, h⟩, fun i b _ hx => ?_⟩, fun b hb => hb.elim⟩
  · refine hs.turn hid _ (Nat.le_refl _) (fun _ _ _ => rfl) (fun _ _ => rfl) (fun i hi => up_other _ _ _ hi) (fun b hb => ?_) (fun _ h => .inl h) (fun b hb => ?_) hst ?_
    · simp [Cx.frz, up] at hb
    · rcases hb with hb | hb
      · exact .inl hb
      · exact .inr ⟨hs.xlt id b hb, fun i hi h => hi (hs.disj i id b h hb), by simp [Cx.frz, up]⟩
    · have h0 := hs.os id
      rw [hr] at h0
      refine ⟨by simp [Cx.frz, up], h0.rd, h0.cur⟩
  · simp only [Cx.frz, up] at hx; split at hx
    · exact hx.elim
    · exact ⟨i, hx⟩
end Go.Proofs.Ytodhnbjncmihkaa.V
end

section
/- The symbolic machine V: cells' values that go into a row. -/
set_option linter.unusedVariables false
set_option linter.unusedSimpArgs false
namespace Go.Proofs.Ytodhnbjncmihkaa.V
open Go
variable {T : TypeId → Option TI}

theorem row_lt {w : World} {c : Cx} {S : Sto} {nx id : Nat} (hs : Sat T w c S nx) {o : O} (hr : geto S id = o) (ho : o ≠ .dead) : id < nx := by
  rcases Nat.lt_or_ge id nx with h | h
  · exact h
  · exact absurd ((hs.lt id h).symm.trans hr).symm ho
/-- A piece of what is only read. -/
theorem Rd.piece {w : World} {Z : Nat → Prop} {e : TypeId} {i : TI} (hT : T e = some i) {xs : List (List D)} {b cap lo n m : Nat}
    (h : Rd T w Z (.sl e) (.sl xs) (.slice (some ⟨b, 0, none⟩) xs.length cap)) (hle : lo + n ≤ xs.length) (hn : 0 < n) (hnm : n ≤ m) :
    Rd T w Z (.sl e) (.sl ((xs.drop lo).take n)) (.slice (some ⟨b, lo * i.ks.length, none⟩) n m) := by
  generalize hv : (Value.slice (some ⟨b, 0, none⟩) xs.length cap) = v at h
  cases h with
  | nil => simp at hle; omega
  | @sl _ i' _ a cap' u hT' hm hle' hZ hs hx hc hr =>
    injection hv with h1 h2 h3
    injection h1 with h1
    subst h1
    obtain rfl : i = i' := by rw [hT] at hT'; exact Option.some.inj hT'
    have hl : ((xs.drop lo).take n).length = n := by simp; omega
    have hg : ∀ (p : Nat) (x : List D), ((xs.drop lo).take n)[p]? = some x → p < n ∧ xs[lo + p]? = some x := by
      intro p x hp
      have hp' := (List.getElem?_eq_some_iff.1 hp).1
      rw [hl] at hp'
      rw [List.getElem?_take_of_lt hp', List.getElem?_drop] at hp
      exact ⟨hp', hp⟩
    have key : Rd T w Z (.sl e) (.sl ((xs.drop lo).take n)) (.slice (some ⟨b, lo * i.ks.length, none⟩) ((xs.drop lo).take n).length m) := by
      refine .sl (fun p j => u (lo + p) j) hT (by rw [hl]; omega) (by rw [hl]; exact hnm) hZ rfl (fun p x hp => hx _ x (hg p x hp).2) (fun p j h1 h2 => ?_) (fun p x j κ d h1 h2 h3 => hr _ x j κ d (hg p x h1).2 h2 h3)
      rw [hl] at h1
      have h3 := hc (lo + p) j (by omega) h2
      rw [← h3]
      congr 1
      have h5 : (lo + p) * i.ks.length + j = lo * i.ks.length + (p * i.ks.length + j) := by rw [Nat.add_mul]; omega
      rw [h5]
      unfold Addr.add
      by_cases h6 : p * i.ks.length + j = 0 <;> by_cases h7 : lo * i.ks.length = 0 <;> simp [h6, h7]
    rw [hl] at key
    exact key

theorem noB {X : Nat → Prop} : (∀ b, ¬ (fun _ : Nat => False) b) := fun _ h => h

/-- What toD says. -/
theorem toD_sound {w : World} {κ : LK} {l : L} {q : RK} {c : Cx} {S : Sto} {nx : Nat} {K : D → RK → Sto → Prop} (h : toD κ l q S K) (hs : Sat T w c S nx) {u : Value} (hl : LR T w c S nx l u) :
    ∃ d q' S' c', ∃ Y : Nat → Prop, K d q' S' ∧ Gs T w c S nx c' S' Y ∧ (q' = q ∨ q' = .sh) ∧ (q' = .tree → Ow T w Y κ d u) ∧ (q' ≠ .tree → Rd T w c'.Z κ d u) ∧
      (∀ id, id ∉ idsL l → geto S' id = geto S id ∧ c'.X id = c.X id ∧ c'.cur id = c.cur id) := by
  have hsc : ∀ d, K d q S → (∀ X : Nat → Prop, (∀ b, ¬ X b) → Ow T w X κ d u) → (∀ Z, Rd T w Z κ d u) → ∃ d q' S' c', ∃ Y : Nat → Prop, K d q' S' ∧ Gs T w c S nx c' S' Y ∧ (q' = q ∨ q' = .sh) ∧ (q' = .tree → Ow T w Y κ d u) ∧ (q' ≠ .tree → Rd T w c'.Z κ d u) ∧ (∀ id, id ∉ idsL l → geto S' id = geto S id ∧ c'.X id = c.X id ∧ c'.cur id = c.cur id) :=
    fun d hK h1 h2 => ⟨d, q, S, c, fun _ => False, hK, Gs.refl hs, .inl rfl, fun _ => h1 _ (fun _ h => h), fun _ => h2 _, fun _ _ => ⟨rfl, rfl, rfl⟩⟩
  unfold toD at h
  split at h
  · split at h
    · rename_i k k' n hk
      cases kEq_t hk
      obtain ⟨rfl, _, hr, _⟩ := hl
      exact hsc _ h (fun X hX => .int hX (hr _ _ rfl)) (fun Z => .int (hr _ _ rfl))
    · exact h.elim
  · obtain ⟨rfl, _⟩ := hl
    exact hsc _ h (fun X hX => .bool hX _) (fun Z => .bool _)
  · cases hl
    exact hsc _ h (fun X hX => .bool hX _) (fun Z => .bool _)
  · obtain ⟨rfl, _, _, hr⟩ := hl
    exact hsc _ h (fun X hX => .str hX (hr _ rfl)) (fun Z => .str (hr _ rfl))
  · obtain ⟨rfl, _⟩ := hl
    exact hsc _ h (fun X hX => .nil hX) (fun Z => .nil)
  · split at h
    · rename_i e e' xs hk
      cases beq_t hk
      exact ⟨_, _, S, c, fun _ => False, h, Gs.refl hs, .inr rfl, (fun h => nomatch h), fun _ => hl, fun _ _ => ⟨rfl, rfl, rfl⟩⟩
    · exact h.elim
  · rename_i e id ver
    split at h
    · rename_i e' k' ver' ys hr
      split at h
      · rename_i hb
        simp only [Bool.and_eq_true] at hb
        cases beq_t hb.1
        cases beq_t hb.2
        obtain ⟨h1, _, h3⟩ := hl
        have hu := (h3 _ _ _ _ hr).2 rfl
        have h0 := hs.os id
        rw [hr] at h0
        have hfr : K (.sl ys) .sh ((id, .row e .froz ver ys) :: S) → ∃ d q' S' c', ∃ Y : Nat → Prop, K d q' S' ∧ Gs T w c S nx c' S' Y ∧ (q' = q ∨ q' = .sh) ∧ (q' = .tree → Ow T w Y (.sl e) d u) ∧ (q' ≠ .tree → Rd T w c'.Z (.sl e) d u) ∧ (∀ i, i ∉ idsL (.all id ver) → geto S' i = geto S i ∧ c'.X i = c.X i ∧ c'.cur i = c.cur i) := by
          intro hK
          refine ⟨_, _, _, c.frz id, fun _ => False, hK, Gs.freeze hs hr, .inr rfl, (fun h => nomatch h), fun _ => ?_, fun i hi => ?_⟩
          · rw [hu]; exact h0.rd
          · have hne : i ≠ id := by simpa [idsL] using hi
            exact ⟨by rw [geto_cons, if_neg (Ne.symm hne)], up_other _ _ _ hne, rfl⟩
        split at h
        · refine ⟨_, _, _, c.give id, c.X id, h, Gs.give hs h1, .inl rfl, fun _ => ?_, fun h => absurd rfl h, fun i hi => ?_⟩
          · rw [hu]; exact h0
          · have hne : i ≠ id := by simpa [idsL] using hi
            exact ⟨by rw [geto_cons, if_neg (Ne.symm hne)], up_other _ _ _ hne, rfl⟩
        · exact hfr h
      · exact h.elim
    · exact h.elim
  · rename_i e id ver lo n
    split at h
    · rename_i e' k' ver' ys hr
      split at h
      · rename_i hb
        simp only [Bool.and_eq_true] at hb
        cases beq_t hb.1
        cases beq_t hb.2
        obtain ⟨h1, ⟨A, m, rfl, hnm⟩, h3⟩ := hl
        obtain ⟨hle, h4, _⟩ := (h3 _ _ _ _ hr).2 rfl
        have h0 := hs.os id
        rw [hr] at h0
        refine ⟨_, _, _, c.frz id, fun _ => False, h, Gs.freeze hs hr, .inr rfl, (fun h => nomatch h), fun _ => ?_, fun i hi => ?_⟩
        · rcases Nat.eq_zero_or_pos n with rfl | hn
          · simp only [List.take_zero]; exact .nil
          · have h5 := h0.rd
            have : ∃ i, T e = some i := by
              generalize c.cur id = v at h5
              cases h5 with
              | nil => simp at hle; omega
              | sl u hT => exact ⟨_, hT⟩
            obtain ⟨i, hT⟩ := this
            obtain ⟨b, cap, m', h6, h7⟩ := h4 i hT hn
            injection h7 with h7 _ h8
            subst h7
            rw [h6] at h5
            exact h5.piece hT hle hn (by omega)
        · have hne : i ≠ id := by simpa [idsL] using hi
          exact ⟨by rw [geto_cons, if_neg (Ne.symm hne)], up_other _ _ _ hne, rfl⟩
      · exact h.elim
    · exact h.elim
  · exact h.elim

theorem Gs.lr {w : World} {c c' : Cx} {S S' : Sto} {nx : Nat} {Lo : Nat → Prop} (h : Gs T w c S nx c' S' Lo) {l : L} {u : Value} (hl : LR T w c S nx l u) : LR T w c' S' nx l u :=
  hl.step h.st (Nat.le_refl _) (fun _ _ => rfl) h.ext.zup
theorem Gs.lrs {w : World} {c c' : Cx} {S S' : Sto} {nx : Nat} {Lo : Nat → Prop} (h : Gs T w c S nx c' S' Lo) {ls : List L} {us : List Value} (hl : LRs T w c S nx ls us) : LRs T w c' S' nx ls us :=
  hl.step h.st (Nat.le_refl _) (fun _ _ => rfl) h.ext.zup

/-- Cells' data: a tree's, on blocks Y j; or only read. -/
structure Lv (T : TypeId → Option TI) (w : World) (c : Cx) (q : RK) (Y : Nat → Nat → Prop) (ks : List LK) (ds : List D) (us : List Value) : Prop where
  len : ds.length = ks.length
  len' : us.length = ks.length
  own : q = .tree → ∀ (j : Nat) (κ : LK) (d : D) (u : Value), ks[j]? = some κ → ds[j]? = some d → us[j]? = some u → Ow T w (Y j) κ d u
  rd : q ≠ .tree → ∀ (j : Nat) (κ : LK) (d : D) (u : Value), ks[j]? = some κ → ds[j]? = some d → us[j]? = some u → Rd T w c.Z κ d u
  disj : ∀ j j' b, Y j b → Y j' b → j = j'
theorem LRs.nil {w : World} {c : Cx} {S : Sto} {nx : Nat} {us : List Value} (h : LRs T w c S nx [] us) : us = [] := by
  have := h.1
  cases us with
  | nil => rfl
  | cons => simp at this
theorem LRs.cons {w : World} {c : Cx} {S : Sto} {nx : Nat} {l : L} {ls : List L} {us : List Value} (h : LRs T w c S nx (l :: ls) us) : ∃ u us', us = u :: us' ∧ LR T w c S nx l u ∧ LRs T w c S nx ls us' := by
  have h1 := h.1
  cases us with
  | nil => simp at h1
  | cons u us' =>
    refine ⟨u, us', rfl, ?_, by simpa using h1, fun j l' hj => ?_⟩
    · obtain ⟨u', h2, h3⟩ := h.2 0 l rfl
      cases h2; exact h3
    · obtain ⟨u', h2, h3⟩ := h.2 (j + 1) l' (by simpa using hj)
      exact ⟨u', by simpa using h2, h3⟩
theorem toDs_sound {w : World} {nx : Nat} : ∀ {ks : List LK} {ls : List L} {q : RK} {c : Cx} {S : Sto} {K : List D → RK → Sto → Prop} (h : toDs ks ls q S K) (hs : Sat T w c S nx) {us : List Value} (hl : LRs T w c S nx ls us),
    ∃ ds q' S' c', ∃ Y : Nat → Nat → Prop, K ds q' S' ∧ Gs T w c S nx c' S' (fun b => q' = .tree ∧ ∃ j, Y j b) ∧ (q' = q ∨ q' = .sh) ∧ Lv T w c' q' Y ks ds us ∧
      (∀ id, id ∉ idsLs ls → geto S' id = geto S id ∧ c'.X id = c.X id ∧ c'.cur id = c.cur id)
  | [], [], q, c, S, K, h, hs, us, hl => by
    obtain rfl := hl.nil
    exact ⟨[], q, S, c, fun _ _ => False, h, (Gs.refl hs).less fun b hb => by obtain ⟨_, j, hj⟩ := hb; exact hj, .inl rfl, ⟨rfl, rfl, fun _ j κ d u h1 => by simp at h1, fun _ j κ d u h1 => by simp at h1, fun _ _ _ h => h.elim⟩, fun _ _ => ⟨rfl, rfl, rfl⟩⟩
  | κ :: ks, l :: ls, q, c, S, K, h, hs, us, hl => by
    obtain ⟨u, us', rfl, hl0, hl1⟩ := hl.cons
    obtain ⟨d, q1, S1, c1, Y0, hK, hg, hq, ho, hr, hf⟩ := toD_sound (T := T) h hs hl0
    obtain ⟨ds, q2, S2, c2, Y, hK2, hg2, hq2, hv, hf2⟩ := toDs_sound hK hg.sat (hg.lrs hl1)
    have hfr : ∀ id, id ∉ idsLs (l :: ls) → geto S2 id = geto S id ∧ c2.X id = c.X id ∧ c2.cur id = c.cur id := by
      intro id hid
      simp only [idsLs, List.mem_append, not_or] at hid
      obtain ⟨a1, a2, a3⟩ := hf id hid.1
      obtain ⟨b1, b2, b3⟩ := hf2 id hid.2
      exact ⟨b1.trans a1, b2.trans a2, b3.trans a3⟩
    have hqq : q2 = q ∨ q2 = .sh := by
      rcases hq2 with rfl | rfl
      · exact hq
      · exact .inr rfl
    have ht := hg.trans hg2
    by_cases e2 : q2 = .tree
    · subst e2
      have e1 : q1 = .tree := by
        rcases hq2 with h | h
        · exact h.symm
        · cases h
      subst e1
      refine ⟨d :: ds, .tree, S2, c2, fun j => match j with | 0 => Y0 | j + 1 => Y j, hK2, ht.less fun b hb => ?_, hqq, ⟨by simp [hv.len], by simp [hv.len'], fun _ j κ' d' u' h1 h2 h3 => ?_, fun h => absurd rfl h, fun j j' b h1 h2 => ?_⟩, hfr⟩
      · obtain ⟨_, j, hj⟩ := hb
        cases j with
        | zero => exact .inl hj
        | succ j => exact .inr ⟨rfl, j, hj⟩
      · cases j with
        | zero => simp at h1 h2 h3; subst h1; subst h2; subst h3; exact ho rfl
        | succ j => exact hv.own rfl j κ' d' u' (by simpa using h1) (by simpa using h2) (by simpa using h3)
      · cases j with
        | zero =>
          cases j' with
          | zero => rfl
          | succ j' =>
            obtain ⟨_, h3, _, i, h4⟩ := hg2.lo b ⟨rfl, j', h2⟩
            exact absurd h4 ((hg.lo b h1).2.1 i)
        | succ j =>
          cases j' with
          | zero =>
            obtain ⟨_, h3, _, i, h4⟩ := hg2.lo b ⟨rfl, j, h1⟩
            exact absurd h4 ((hg.lo b h2).2.1 i)
          | succ j' => rw [hv.disj j j' b h1 h2]
    · have hz := ht.toZ Y0 fun b hb => .inl hb
      have hrd : Rd T w (c2.zup Y0).Z κ d u := by
        by_cases e1 : q1 = .tree
        · exact (ho e1).rd fun b hb => .inr hb
        · exact (hr e1).mono (fun _ _ => rfl) fun b hb => .inl (hg2.ext.zup b hb)
      refine ⟨d :: ds, q2, S2, c2.zup Y0, fun _ _ => False, hK2, hz.less fun b hb => by obtain ⟨h, _⟩ := hb; exact absurd h e2, hqq, ⟨by simp [hv.len], by simp [hv.len'], fun h => absurd h e2, fun _ j κ' d' u' h1 h2 h3 => ?_, fun _ _ _ h => h.elim⟩, hfr⟩
      cases j with
      | zero => simp at h1 h2 h3; subst h1; subst h2; subst h3; exact hrd
      | succ j => exact (hv.rd e2 j κ' d' u' (by simpa using h1) (by simpa using h2) (by simpa using h3)).mono (fun _ _ => rfl) fun b hb => .inl hb
  | [], _ :: _, _, _, _, _, h, _, _, _ => h.elim
  | _ :: _, [], _, _, _, _, h, _, _, _ => h.elim
end Go.Proofs.Ytodhnbjncmihkaa.V
end

section
/- The symbolic machine V: the table of types held against the program; operands; reads. -/
set_option linter.unusedVariables false
set_option linter.unusedSimpArgs false
namespace Go.Proofs.Ytodhnbjncmihkaa.V
open Go

def zOk1 : LK → Value → Bool
  | .int k, .int k' n => kEq k k' && n == 0
  | .bool, .bool b => !b
  | .str, .string s => s.size == 0
  | .sl _, .slice none 0 0 => true
  | .oth, v => v.oneCell'
  | _, _ => false
def zOks : List LK → List Value → Bool
  | [], [] => true
  | κ :: ks, v :: vs => zOk1 κ v && zOks ks vs
  | _, _ => false
def fsOk (P : Program) : List (Nat × TypeId) → List Field → Bool
  | [], [] => true
  | (o, t) :: r, f :: fs => Nat.beq o f.offset && Nat.beq t f.type && (match P.info? f.type with | some i => !Nat.beq i.size 0 | none => false) && fsOk P r fs
  | _, _ => false
def TI.isAgg (i : TI) : Bool :=
  match i.d with
  | .st _ => true
  | .arr _ _ => true
  | _ => false
def ksFit (i : TI) : Bool :=
  match i.d with
  | .int k => lksEq i.ks [.int k]
  | .bool => lksEq i.ks [.bool]
  | .str => lksEq i.ks [.str]
  | .sl e => lksEq i.ks [.sl e]
  | .st _ => true
  | .arr _ _ => true
  | _ => match i.ks with | [.oth] => true | _ => false
def dOk (P : Program) (t : TypeId) (i : TI) : Bool :=
  match i.d, P.underlying t with
  | .int k, some (.int k') => kEq k k'
  | .bool, some .bool => true
  | .str, some .string => true
  | .sl e, some (.slice e') => Nat.beq e e'
  | .st fs, some (.struct arr) => fsOk P fs arr.toList
  | .arr n e, some (.array n' e') => Nat.beq n n' && Nat.beq e e'
  | .ptr e, some (.pointer e') => Nat.beq e e'
  | _, _ => false
def tyOk (P : Program) (t : TypeId) (i : TI) : Bool :=
  match P.info? t with
  | none => false
  | some inf => Nat.beq inf.size i.ks.length && Nat.beq inf.bytes i.bytes && ksFit i && dOk P t i &&
    (match inf.zero with | some z => zOks i.ks z.cells.toList && (match z with | .agg _ => i.isAgg | _ => !i.isAgg) | none => false)
def TOk (P : Program) (T : TypeId → Option TI) : Prop := ∀ t i, T t = some i → tyOk P t i = true

def cOk1 : Value → Bool
  | .int k n => match k with
    | .i8 => decide (-128 ≤ n ∧ n ≤ 127) | .i16 => decide (-32768 ≤ n ∧ n ≤ 32767) | .i32 => decide (-2147483648 ≤ n ∧ n ≤ 2147483647)
    | .i64 => decide (-9223372036854775808 ≤ n ∧ n ≤ 9223372036854775807)
    | .u8 => decide (0 ≤ n ∧ n ≤ 255) | .u16 => decide (0 ≤ n ∧ n ≤ 65535) | .u32 => decide (0 ≤ n ∧ n ≤ 4294967295) | .u64 => decide (0 ≤ n ∧ n ≤ 18446744073709551615)
  | .string s => decide (s.size ≤ 9223372036854775807)
  | .agg _ => false
  | .tuple _ => false
  | _ => true
def cOk : Value → Bool
  | .agg cs => cs.toList.all cOk1
  | .tuple _ => true
  | v => cOk1 v
def xOk : Operand → Bool
  | .const v => cOk v
  | _ => true
def oOk (n : Nat) (o : Oper) : Bool := o.op.operands.toList.all xOk && (match o.dst with | some d => Nat.blt d n | none => true)

variable {P : Program} {T : TypeId → Option TI}

theorem cOk1_rng {k : IntKind} {n : Int} (h : cOk1 (.int k n) = true) : rng k n := by
  cases k <;> simpa [cOk1, rng] using h
theorem LR.ofConst {w : World} {c : Cx} {S : Sto} {nx : Nat} {v : Value} (h : cOk1 v = true) : LR T w c S nx (cL v) v := by
  have h1 : v.oneCell' = true := by cases v <;> first | rfl | (simp [cOk1] at h)
  cases v with
  | bool b => rfl
  | int k n => exact ⟨rfl, h1, (fun k' n' e => by cases e; exact cOk1_rng h), (fun s e => nomatch e)⟩
  | string s => exact ⟨rfl, h1, (fun k' n' e => nomatch e), (fun s' e => by cases e; simpa [cOk1, maxI] using h)⟩
  | agg cs => simp [Value.oneCell'] at h1
  | tuple cs => simp [Value.oneCell'] at h1
  | _ => exact ⟨rfl, h1, (fun k' n' e => nomatch e), (fun s e => nomatch e)⟩
/-- An operand's value. -/
theorem ev_sound {w : World} {c : Cx} {S : Sto} {nx : Nat} {F : Frm} {a : Act} (hF : ∀ t, VR T w c S nx (get F t) (a.tmps.getD t undef)) {x : Operand} (hx : xOk x = true) : VR T w c S nx (ev F x) (a.eval x) := by
  cases x with
  | tmp t => exact hF t
  | global g => exact .junk
  | func f => exact .one ⟨fun id h => by simp at h, [], rfl, rfl, fun q id h => by simp at h⟩
  | const v =>
    simp only [xOk] at hx
    show VR T w c S nx (constV v) v
    have one : cOk1 v = true → VR T w c S nx (.one (cL v)) v := fun h => .one (LR.ofConst h)
    cases v with
    | agg cs =>
      refine .agg ⟨by simp, fun j l hj => ?_⟩
      simp only [cOk, List.all_eq_true] at hx
      rw [List.getElem?_map] at hj
      cases hg : cs.toList[j]? with
      | none => rw [hg] at hj; simp at hj
      | some u =>
        rw [hg] at hj
        cases hj
        exact ⟨u, rfl, LR.ofConst (hx u (List.mem_of_getElem? hg))⟩
    | tuple vs => exact .junk
    | bool b => exact one rfl
    | _ => exact one hx

/-! ### facts of the table -/
structure TyF (P : Program) (t : TypeId) (i : TI) (inf : TypeInfo) (z : Value) : Prop where
  hi : P.info? t = some inf
  size : inf.size = i.ks.length
  bytes : inf.bytes = i.bytes
  hz : inf.zero = some z
  zok : zOks i.ks z.cells.toList = true
  fit : ksFit i = true
  d : dOk P t i = true
theorem TOk.at (h : TOk P T) {t : TypeId} {i : TI} (ht : T t = some i) : ∃ inf z, TyF P t i inf z := by
  have := h t i ht
  unfold tyOk at this
  split at this
  · simp at this
  · rename_i inf hi
    simp only [Bool.and_eq_true] at this
    obtain ⟨⟨⟨⟨h1, h2⟩, h3⟩, h4⟩, h5⟩ := this
    split at h5
    · rename_i z hz
      simp only [Bool.and_eq_true] at h5
      exact ⟨inf, z, hi, beq_t h1, beq_t h2, hz, h5.1, h3, h4⟩
    · simp at h5
theorem TyF.sl {t e : TypeId} {i : TI} {inf : TypeInfo} {z : Value} (h : TyF P t i inf z) (hd : i.d = .sl e) : P.underlying t = some (.slice e) := by
  have := h.d
  unfold dOk at this
  rw [hd] at this
  split at this <;> first | (simp at this; done) | (rename_i h1 h2; first | (cases h1; cases beq_t this; exact h2) | cases h1)
theorem TyF.agg {t : TypeId} {i : TI} {inf : TypeInfo} {z : Value} (h : TyF P t i inf z) (w : World) : (isAgg t).run P w = .ok i.isAgg w := by
  have := h.d
  unfold dOk at this
  unfold isAgg TI.isAgg
  split at this <;> first | (simp at this; done) | (rename_i h1 h2; simp [underlying, h1, h2])
theorem TyF.cells {t : TypeId} {i : TI} {inf : TypeInfo} {z : Value} (h : TyF P t i inf z) (w : World) : (sizeOf t).run P w = .ok i.ks.length w := by
  simp [sizeOf, typeInfo, h.hi, h.size]
theorem TyF.one {t : TypeId} {i : TI} {inf : TypeInfo} {z : Value} (h : TyF P t i inf z) (ha : i.isAgg = false) : i.ks.length = 1 := by
  have h1 := h.fit
  unfold ksFit at h1
  unfold TI.isAgg at ha
  split at h1 <;> first | (rename_i hd; rw [hd] at ha; simp at ha; done) | (rw [lksEq_t h1]; rfl) | skip
  split at h1
  · rename_i h2; rw [h2]; rfl
  · simp at h1
end Go.Proofs.Ytodhnbjncmihkaa.V
end

section
/- The symbolic machine V: reads. -/
set_option linter.unusedVariables false
set_option linter.unusedSimpArgs false
namespace Go.Proofs.Ytodhnbjncmihkaa.V
open Go
variable {P : Program} {T : TypeId → Option TI}

/-- A run that goes on, in the store's words. -/
def Good (P : Program) (T : TypeId → Option TI) (w : World) (c : Cx) (S : Sto) (nx : Nat) (r : Result Next) (K : V → Sto → Nat → Prop) : Prop :=
  ∃ u v w' c' S' nx', (r = .ok (.value u) w' ∨ (r = .ok .skip w' ∧ u = undef)) ∧ Step T w c S nx w' c' S' nx' ∧ VR T w' c' S' nx' v u ∧ K v S' nx'

theorem force_eq {v : V} {K : V → Prop} (h : force v K) : K v := by cases v <;> exact h
theorem guardT_eq {b : Bool} {p : Prop} (h : guardT b p) : b = true ∧ p := by cases b <;> first | exact h.elim | exact ⟨rfl, h⟩
theorem sub_eq {α : Type} : ∀ (l : List α) (j n : Nat), sub l j n = (l.drop j).take n
  | _, _, 0 => by simp [sub]
  | [], _, _ + 1 => by simp [sub]
  | x :: xs, 0, n + 1 => by simp [sub, sub_eq xs 0 n]
  | _ :: xs, j + 1, n + 1 => by simp [sub, sub_eq xs j (n + 1)]
theorem Rd.scalar {w : World} {Z Z' : Nat → Prop} {κ : LK} {d : D} {u : Value} (h : Rd T w Z κ d u) (hκ : ∀ e, κ ≠ .sl e) : Rd T w Z' κ d u := by
  cases h with
  | int h => exact .int h
  | bool b => exact .bool b
  | str h => exact .str h
  | nil => exact absurd rfl (hκ _)
  | sl => exact absurd rfl (hκ _)
theorem noSl_at : ∀ {ks : List LK}, noSl ks = true → ∀ {j : Nat} {κ : LK}, ks[j]? = some κ → ∀ e, κ ≠ LK.sl e
  | [], _, _, _, h, _ => by simp at h
  | k :: ks, h, j, κ, hj, e => by
    cases k with
    | sl e' => simp [noSl] at h
    | _ =>
      cases j with
      | zero => simp at hj; subst hj; simp
      | succ j => exact noSl_at (ks := ks) (by simpa [noSl] using h) (by simpa using hj) e
theorem add_plain (b n j : Nat) : (⟨b, n, none⟩ : Addr).add j = ⟨b, n + j, none⟩ := by unfold Addr.add; split <;> simp_all
theorem cell_at {w : World} {b : Nat} {arr : Array Value} {t : TypeId} {fr : Nat × Nat} (h : w.heap[b]? = some (.cells arr t fr)) (j : Nat) : w.cell? ⟨b, j, none⟩ = arr[j]? := by simp [World.cell?, h]

/-- A tree's elements are shared from now on. -/
theorem Gs.share {w : World} {c : Cx} {S : Sto} {nx id : Nat} (hs : Sat T w c S nx) {e ver xs} (hr : geto S id = .row e .tree ver xs) :
    ∃ c', Gs T w c S nx c' ((id, .row e .sh ver xs) :: S) (fun _ => False) ∧ c'.cur = c.cur := by
  have hid := row_lt hs hr (by simp)
  have h0 := hs.os id
  rw [hr] at h0
  simp only [OS] at h0
  have mk : ∀ c' : Cx, c'.cur = c.cur → (∀ i, i ≠ id → c'.X i = c.X i) → (∀ b, c'.X id b → c.X id b) → (∀ b, c'.Z b ↔ (c.Z b ∨ (c.X id b ∧ ¬ c'.X id b))) → Sh T w c'.Z (c'.X id) e xs (c.cur id) →
      Gs T w c S nx c' ((id, .row e .sh ver xs) :: S) (fun _ => False) := by
    intro c' hc hX hX0 hZ hsh
    have hst : Stays c S nx c' ((id, .row e .sh ver xs) :: S) := by
      refine .mk (fun i e' k' ver' xs' hi hr' => ?_) (fun i t ls hi hr' => ?_)
      · rw [geto_cons] at hr'; split at hr'
        · rename_i h; subst h; cases hr'; exact ⟨_, _, _, hr, .inr ⟨rfl, rfl, by rw [hc]⟩⟩
        · exact ⟨k', ver', xs', hr', .inr ⟨rfl, rfl, by rw [hc]⟩⟩
      · rw [geto_cons] at hr'; split at hr'
        · cases hr'
        · exact ⟨ls, hr', by rw [hc]⟩
    refine ⟨?_, hst, ⟨rfl, rfl, rfl, Nat.le_refl _, fun _ _ _ => rfl, fun b h => (hZ b).2 (.inl h), fun b _ h => ((hZ b).1 h).imp (fun h => h) fun h => ⟨id, h.1⟩, fun i b _ hx => ?_⟩, fun b hb => hb.elim⟩
    · refine hs.turn hid _ (Nat.le_refl _) (fun _ _ _ => rfl) (fun i _ => by rw [hc]) hX (fun b hb => ⟨hs.xlt id b (hX0 b hb), hs.xz id b (hX0 b hb), fun i hi h => hi (hs.disj i id b h (hX0 b hb))⟩) (fun b h => (hZ b).2 (.inl h)) (fun b hb => ?_) hst ?_
      · rcases (hZ b).1 hb with h | ⟨h1, h2⟩
        · exact .inl h
        · exact .inr ⟨hs.xlt id b h1, fun i hi h => hi (hs.disj i id b h h1), h2⟩
      · simp only [OS]; rw [hc]; exact hsh
    · by_cases hi : i = id
      · subst hi; exact ⟨i, hX0 b hx⟩
      · exact ⟨i, by rw [← hX i hi]; exact hx⟩
  generalize hv : c.cur id = v at h0 mk
  cases h0 with
  | nil hX =>
    refine ⟨c, mk c rfl (fun _ _ => rfl) (fun _ h => h) (fun b => ⟨.inl, fun h => h.elim (fun h => h) fun h => absurd h.1 h.2⟩) (.nil hX), rfl⟩
  | @sl _ _ i _ b arr cap u Y hT hm hb hcap hle hx hc hr' hd hn hX =>
    refine ⟨⟨fun k => c.Z k ∨ (c.X id k ∧ k ≠ b), c.cur, up c.X id fun k => k = b⟩, mk _ rfl (fun i hi => up_other _ _ _ hi) (fun k hk => ?_) (fun k => ?_) ?_, rfl⟩
    · simp only [up, if_true] at hk; exact (hX k).2 (.inl hk)
    · simp only [up, if_true]
    · simp only [up, if_true]
      refine .sl u hT hm hb hcap hle hx hc (fun p x j κ d h1 h2 h3 => (hr' p x j κ d h1 h2 h3).rd fun k hk => .inr ⟨(hX k).2 (.inr ⟨p, j, ?_, ?_, hk⟩), fun e => hn p j (e ▸ hk)⟩) fun k => Iff.rfl
      · exact (List.getElem?_eq_some_iff.1 h1).1
      · exact (List.getElem?_eq_some_iff.1 h2).1
/-- Element p of a row of one's own, in memory. -/
theorem row_view {w : World} {c : Cx} {S : Sto} {nx id : Nat} {e k ver xs} (h0 : OS T w c S nx id (.row e k ver xs)) {b cap : Nat} (hcur : c.cur id = .slice (some ⟨b, 0, none⟩) xs.length cap) {i : TI} (hT : T e = some i) {p : Nat} (hp : p < xs.length) :
    ∃ (x : List D) (u : Nat → Value), xs[p]? = some x ∧ x.length = i.ks.length ∧ (∀ q, q < i.ks.length → w.cell? ⟨b, p * i.ks.length + q, none⟩ = some (u q)) ∧
      (∀ (q : Nat) (κ : LK) (d : D), i.ks[q]? = some κ → x[q]? = some d → Rd T w (fun k => c.Z k ∨ c.X id k) κ d (u q)) ∧ (k ≠ .tree → ∀ (q : Nat) (κ : LK) (d : D), i.ks[q]? = some κ → x[q]? = some d → Rd T w c.Z κ d (u q)) := by
  have hx0 : xs[p]? = some (xs[p]'hp) := List.getElem?_eq_getElem hp
  cases k with
  | tree =>
    simp only [OS] at h0
    rw [hcur] at h0
    generalize hv : (Value.slice (some ⟨b, 0, none⟩) xs.length cap) = v at h0
    cases h0 with
    | nil hX => simp at hp
    | @sl _ _ i' _ b' arr cap' u Y hT' hm hb hcap hle hx hc hr' hd hn hX =>
      obtain rfl : i = i' := by rw [hT] at hT'; exact Option.some.inj hT'
      injection hv with h1 _ _
      injection h1 with h1
      injection h1 with h1
      subst h1
      refine ⟨_, u p, hx0, hx p _ hx0, fun q hq => by rw [cell_at hb]; exact hc p q hp hq, fun q κ d h1 h2 => (hr' p _ q κ d hx0 h1 h2).rd fun k hk => .inr ((hX k).2 (.inr ⟨p, q, hp, (List.getElem?_eq_some_iff.1 h1).1, hk⟩)), fun h => absurd rfl h⟩
  | sh =>
    simp only [OS] at h0
    rw [hcur] at h0
    generalize hv : (Value.slice (some ⟨b, 0, none⟩) xs.length cap) = v at h0
    cases h0 with
    | nil hX => simp at hp
    | @sl i' _ b' arr cap' u hT' hm hb hcap hle hl hc hr hX =>
      obtain rfl : i = i' := by rw [hT] at hT'; exact Option.some.inj hT'
      injection hv with h1 _ _
      injection h1 with h1
      injection h1 with h1
      subst h1
      exact ⟨_, u p, hx0, hl p _ hx0, fun q hq => by rw [cell_at hb]; exact hc p q hp hq, fun q κ d h1 h2 => (hr p _ q κ d hx0 h1 h2).mono (fun _ _ => rfl) fun k hk => .inl hk, fun _ q κ d h1 h2 => hr p _ q κ d hx0 h1 h2⟩
  | froz =>
    simp only [OS] at h0
    obtain ⟨_, h0, _⟩ := h0
    rw [hcur] at h0
    generalize hv : (Value.slice (some ⟨b, 0, none⟩) xs.length cap) = v at h0
    cases h0 with
    | nil => simp at hp
    | @sl _ i' _ a cap' u hT' hm hle hZ hs hx hc hr =>
      obtain rfl : i = i' := by rw [hT] at hT'; exact Option.some.inj hT'
      injection hv with h1 _ _
      injection h1 with h1
      subst h1
      exact ⟨_, u p, hx0, hx p _ hx0, fun q hq => by have := hc p q hp hq; rwa [add_plain, Nat.zero_add] at this, fun q κ d h1 h2 => (hr p _ q κ d hx0 h1 h2).mono (fun _ _ => rfl) fun k hk => .inl hk, fun _ q κ d h1 h2 => hr p _ q κ d hx0 h1 h2⟩

/-- Cells' data, as values. -/
theorem leafOf_sound {w : World} {c : Cx} {S : Sto} {nx : Nat} {κ : LK} {d : D} {u : Value} (hr : Rd T w c.Z κ d u) {K : L → Prop} (h : leafOf κ d K) : ∃ l, K l ∧ LR T w c S nx l u := by
  cases hr with
  | int hr => exact ⟨_, h hr, rfl, rfl, fun k n e => by cases e; exact hr, fun s e => nomatch e⟩
  | bool b => exact ⟨_, h, rfl, rfl, fun k n e => (nomatch e), fun s e => nomatch e⟩
  | str hr => exact ⟨_, h hr, rfl, rfl, fun k n e => (nomatch e), fun s e => by cases e; exact hr⟩
  | nil => exact ⟨_, h (by simp [D.rows]), .nil⟩
  | sl u hT hm hle hZ hs hx hc hr' => exact ⟨_, h hm, .sl u hT hm hle hZ hs hx hc hr'⟩
theorem leaves_sound {w : World} {c : Cx} {S : Sto} {nx : Nat} {ds : List D} : ∀ {ks : List LK} {j : Nat} {K : List L → Prop} (us : List Value), us.length = ks.length →
    (∀ q κ, ks[q]? = some κ → ∃ u, us[q]? = some u ∧ Rd T w c.Z κ (ds.getD (j + q) default) u) → leaves ks ds j K → ∃ ls, K ls ∧ LRs T w c S nx ls us ∧ ls.length = ks.length
  | [], j, K, us, hl, hr, h => by
    have : us = [] := by cases us with | nil => rfl | cons => simp at hl
    subst this
    exact ⟨[], h, ⟨rfl, fun j l hj => by simp at hj⟩, rfl⟩
  | κ :: ks, j, K, us, hl, hr, h => by
    cases us with
    | nil => simp at hl
    | cons u us =>
      obtain ⟨u', h1, h2⟩ := hr 0 κ rfl
      simp at h1; subst h1
      obtain ⟨l, h3, h4⟩ := leafOf_sound (S := S) (nx := nx) (by simpa using h2) h
      obtain ⟨ls, h5, h6, h7⟩ := leaves_sound (S := S) (nx := nx) (ks := ks) (j := j + 1) us (by simpa using hl) (fun q κ' hq => by
        obtain ⟨u', h5, h6⟩ := hr (q + 1) κ' (by simpa using hq)
        exact ⟨u', by simpa using h5, by rwa [show j + 1 + q = j + (q + 1) by omega]⟩) h3
      refine ⟨l :: ls, h5, ⟨by simpa using h6.1, fun j l' hj => ?_⟩, by simp [h7]⟩
      cases j with
      | zero => simp at hj; subst hj; exact ⟨u, rfl, h4⟩
      | succ j => obtain ⟨u', h8, h9⟩ := h6.2 j l' (by simpa using hj); exact ⟨u', by simpa using h8, h9⟩

/-- A variable is read. -/
theorem run_loadVar {t : TypeId} {i : TI} {inf : TypeInfo} {z : Value} (ht : TyF P t i inf z) (a : Addr) {us : List Value} (hl : us.length = i.ks.length) :
    ∃ u, (∀ w : World, (∀ q u, us[q]? = some u → w.cell? (a.add q) = some u) → (loadVar t a).run P w = .ok u w) ∧ ((i.isAgg = true ∧ u = .agg us.toArray) ∨ (i.isAgg = false ∧ us = [u])) := by
  cases ha : i.isAgg with
  | true =>
    refine ⟨.agg us.toArray, fun w hc => ?_, .inl ⟨rfl, rfl⟩⟩
    simp only [loadVar, Sem.run_bind, ht.agg, ha, Result.andThen_ok, if_true, ht.cells]
    rw [← hl, run_loadCells_list w a us hc]
    rfl
  | false =>
    have h1 := ht.one ha
    obtain ⟨u, rfl⟩ : ∃ u, us = [u] := List.length_eq_one_iff.1 (by omega)
    refine ⟨u, fun w hc => ?_, .inr ⟨rfl, rfl⟩⟩
    have h2 := hc 0 u rfl
    have h3 : a.add 0 = a := rfl
    rw [h3] at h2
    simp [loadVar, ht.agg, ha, h2]
theorem mkV_sound {w : World} {c : Cx} {S : Sto} {nx : Nat} {i : TI} {ls : List L} {us : List Value} {u : Value} (hl : LRs T w c S nx ls us) (h : (i.isAgg = true ∧ u = .agg us.toArray) ∨ (i.isAgg = false ∧ us = [u])) : VR T w c S nx (mkV i ls) u := by
  unfold TI.isAgg at h
  unfold mkV
  split
  · rename_i hd; rw [hd] at h; simp at h; subst h; exact .agg (by simpa using hl)
  · rename_i hd; rw [hd] at h; simp at h; subst h; exact .agg (by simpa using hl)
  · rename_i h1 h2
    have h3 : us = [u] := by
      rcases h with ⟨h, _⟩ | ⟨_, h⟩
      · split at h
        · rename_i hd; exact absurd hd (h1 _)
        · rename_i hd; exact absurd hd (h2 _ _)
        · simp at h
      · exact h
    subst h3
    split
    · rename_i l
      obtain ⟨u', h4, h5⟩ := hl.2 0 l rfl
      simp at h4; subst h4
      exact .one h5
    · exact .junk
end Go.Proofs.Ytodhnbjncmihkaa.V
end

section
/- The symbolic machine V: operations that read or reckon. -/
set_option linter.unusedVariables false
set_option linter.unusedSimpArgs false
namespace Go.Proofs.Ytodhnbjncmihkaa.V
open Go

theorem Good.run {P : Program} {T : TypeId → Option TI} {w : World} {c : Cx} {S : Sto} {nx : Nat} {K : V → Sto → Nat → Prop} {s : Sem Value} {u : Value} {v : V} {w' : World} {c' : Cx} {S' : Sto} {nx' : Nat}
    (h : s.run P w = .ok u w') (hs : Step T w c S nx w' c' S' nx') (hv : VR T w' c' S' nx' v u) (hk : K v S' nx') : Good P T w c S nx ((do pure (Next.value (← s)) : Sem Next).run P w) K :=
  ⟨u, v, w', c', S', nx', .inl (by simp [h]), hs, hv, hk⟩
theorem Good.still {P : Program} {T : TypeId → Option TI} {w : World} {c : Cx} {S : Sto} {nx : Nat} {K : V → Sto → Nat → Prop} {s : Sem Value} {u : Value} {v : V}
    (hs : Sat T w c S nx) (h : s.run P w = .ok u w) (hv : VR T w c S nx v u) (hk : K v S nx) : Good P T w c S nx ((do pure (Next.value (← s)) : Sem Next).run P w) K :=
  Good.run h (Step.refl hs) hv hk
theorem Gs.step {T : TypeId → Option TI} {w : World} {c c' : Cx} {S S' : Sto} {nx : Nat} {Lo : Nat → Prop} (h : Gs T w c S nx c' S' Lo) : Step T w c S nx w c' S' nx := ⟨h.sat, h.ext, h.st, Nat.le_refl _⟩

variable {C : Cfg} {w : World} {c : Cx} {S : Sto} {nx : Nat} {K : V → Sto → Nat → Prop}
theorem VR.inv1 {T : TypeId → Option TI} {l : L} {u : Value} (h : VR T w c S nx (.one l) u) : LR T w c S nx l u := by cases h; assumption
theorem getElem_sub {ks i : List LK} {j n : Nat} (h : sub ks j n = i) (hn : i.length = n) {q : Nat} {κ : LK} (hq : i[q]? = some κ) : ks[j + q]? = some κ := by
  subst h
  have h1 := (List.getElem?_eq_some_iff.1 hq).1
  rw [hn] at h1
  rw [sub_eq, List.getElem?_take_of_lt h1, List.getElem?_drop] at hq
  exact hq

theorem row_blk {T : TypeId → Option TI} (hs : Sat T w c S nx) {id : Nat} {e k ver xs} (h0 : OS T w c S nx id (.row e k ver xs)) {b cap : Nat} (hcur : c.cur id = .slice (some ⟨b, 0, none⟩) xs.length cap) {p : Nat} (hp : p < xs.length) : b < w.heap.size := by
  have h1 := h0.rd
  rw [hcur] at h1
  generalize hv : (Value.slice (some ⟨b, 0, none⟩) xs.length cap) = v at h1
  cases h1 with
  | nil => simp at hp
  | sl u hT hm hle hZ =>
    injection hv with h1 _ _
    injection h1 with h1
    subst h1
    exact hZ.elim (hs.zlt _) (hs.xlt _ _)
/-- A load: what it yields, wherever its block is as it is. -/
def GoodL (P : Program) (T : TypeId → Option TI) (w : World) (c : Cx) (S : Sto) (nx : Nat) (z : Bool) (s : Sem Value) (K : V → Sto → Nat → Prop) : Prop :=
  ∃ u v c' S' b, (∀ w2 : World, w2.heap[b]? = w.heap[b]? → s.run P w2 = .ok u w2) ∧ Step T w c S nx w c' S' nx ∧ VR T w c' S' nx v u ∧ K v S' nx ∧ b < w.heap.size ∧ (z = true → c.Z b)
theorem load_soundL (hT : TOk C.P C.T) {t : TypeId} {v : V} (h : loadwp C t v S fun v S => K v S nx) (hs : Sat C.T w c S nx) {u : Value} (hv : VR C.T w c S nx v u) :
    GoodL C.P C.T w c S nx (isR v) (Instr.loadAt t u) K := by
  unfold loadwp at h
  split at h
  · -- a pointer of one's own
    rename_i i id ver p j hi
    obtain ⟨inf, z, ht⟩ := hT.at hi
    obtain ⟨h1, ⟨a, rfl⟩, h2, h3⟩ := hv.inv1
    split at h
    · rename_i bt ls ho
      obtain ⟨hb, h⟩ := guardT_eq h
      have h := force_eq h
      have hle : j + i.ks.length ≤ ls.length := Nat.le_of_ble_eq_true hb
      obtain ⟨b, h4, h5⟩ := h3 _ _ ho
      have h0 := hs.os id
      rw [ho] at h0
      obtain ⟨b', arr, h6, h7, h8, h9⟩ := h0
      rw [h4] at h6
      cases h6
      cases h5
      have hlen := h9.1
      obtain ⟨u, h10, h11⟩ := run_loadVar (P := C.P) ht ⟨b, j, none⟩ (us := sub arr.toList j i.ks.length) (by rw [sub_eq]; simp; simp at hlen; omega)
      refine ⟨u, _, c, S, b, fun w2 hw2 => ?_, Step.refl hs, mkV_sound ?_ h11, h, hs.xlt id b ((h8 b).2 rfl), fun h => by simp [isR] at h⟩
      · have := h10 w2 (fun q u hq => by
          rw [add_plain, cell_at (hw2.trans h7)]
          rw [sub_eq] at hq
          have hq' := (List.getElem?_eq_some_iff.1 hq).1
          simp at hq'
          rw [List.getElem?_take_of_lt (by omega), List.getElem?_drop] at hq
          simpa using hq)
        simpa [Instr.loadAt, Instr.sureAddr] using this
      refine ⟨by rw [sub_eq, sub_eq]; simp; simp at hlen; omega, fun q l hq => ?_⟩
      rw [sub_eq] at hq ⊢
      have hq' := (List.getElem?_eq_some_iff.1 hq).1
      simp at hq'
      rw [List.getElem?_take_of_lt (by omega), List.getElem?_drop] at hq ⊢
      exact h9.2 _ _ hq
    · rename_i e q0 ver' xs ho
      split at h
      · rename_i ie hie
        obtain ⟨hb, h⟩ := guardT_eq h
        simp only [Bool.and_eq_true] at hb
        cases beq_t hb.1
        have hks := lksEq_t hb.2
        obtain ⟨hp, h4⟩ := (h2 _ _ _ _ ho).2 rfl
        obtain ⟨b, cap, h5, h6⟩ := h4 ie hie
        cases h6
        have hn : i.ks.length ≤ ie.ks.length - j ∧ (0 < i.ks.length → j < ie.ks.length) := by
          have := congrArg List.length hks
          rw [sub_eq] at this
          simp at this
          omega
        have hlow : ∀ q, q < i.ks.length → j + q < ie.ks.length := fun q hq => by omega
        -- the state in which it is read
        have key : ∃ c' S', Gs C.T w c S nx c' S' (fun _ => False) ∧ c'.cur = c.cur ∧ ∃ k', geto S' id = .row e k' ver xs ∧ (k' ≠ .tree ∨ noSl i.ks = true) ∧ leaves i.ks (xs.getD p []) j (fun ls => K (mkV i ls) S' nx) := by
          have plain : (q0 ≠ .tree ∨ noSl i.ks = true) → leaves i.ks (xs.getD p []) j (fun ls => K (mkV i ls) S nx) → ∃ c' S', Gs C.T w c S nx c' S' (fun _ => False) ∧ c'.cur = c.cur ∧ ∃ k', geto S' id = .row e k' ver xs ∧ (k' ≠ .tree ∨ noSl i.ks = true) ∧ leaves i.ks (xs.getD p []) j (fun ls => K (mkV i ls) S' nx) :=
            fun h1 h2 => ⟨c, S, Gs.refl hs, rfl, q0, ho, h1, h2⟩
          have lm : ∀ {ks ds j} {K K' : List L → Prop}, (∀ ls, K ls → K' ls) → leaves ks ds j K → leaves ks ds j K' := by
            intro ks ds j
            induction ks generalizing j with
            | nil => exact fun hk h => hk _ h
            | cons κ ks ih =>
              intro K K' hk h
              simp only [leaves] at h ⊢
              cases κ with
              | int k => exact fun hr => ih (fun ls => hk _) (h hr)
              | bool => exact ih (fun ls => hk _) h
              | str => exact fun hr => ih (fun ls => hk _) (h hr)
              | sl e => exact fun hr => ih (fun ls => hk _) (h hr)
              | oth => exact h.elim
          cases q0 with
          | sh => exact plain (.inl (by simp)) (lm (fun ls h => by split at h <;> first | exact force_eq h | contradiction) h)
          | froz => exact plain (.inl (by simp)) (lm (fun ls h => by split at h <;> first | exact force_eq h | contradiction) h)
          | tree =>
            by_cases hsl : noSl i.ks = true
            · exact plain (.inr hsl) (lm (fun ls h => by rw [hsl] at h; exact force_eq h) h)
            · have hsl : noSl i.ks = false := by simpa using hsl
              obtain ⟨c', hg, hc⟩ := Gs.share hs ho
              exact ⟨c', _, hg, hc, .sh, by rw [geto_cons, if_pos rfl], .inl (by simp), lm (fun ls h => by rw [hsl] at h; exact force_eq h) h⟩
        obtain ⟨c', S', hg, hc, k', ho', hk', h⟩ := key
        have h0 := hg.sat.os id
        rw [ho'] at h0
        have hblk : b < w.heap.size := by
          have g0 := hs.os id
          rw [ho] at g0
          exact row_blk hs g0 h5 hp
        obtain ⟨x, uu, hx, hxl, hcell, hr1, hr2⟩ := row_view h0 (by rw [hc]; exact h5) hie hp
        have hgd : xs.getD p [] = x := by simp [List.getD, hx]
        rw [hgd] at h
        obtain ⟨ls, h7, h8, h9⟩ := leaves_sound (T := C.T) (w := w) (c := c') (S := S') (nx := nx) ((List.range i.ks.length).map fun q => uu (j + q)) (by simp) (fun q κ hq => by
          have hq' := (List.getElem?_eq_some_iff.1 hq).1
          refine ⟨uu (j + q), by simp [hq'], ?_⟩
          have h10 := getElem_sub hks rfl hq
          have h11 : x[j + q]? = some (x.getD (j + q) default) := by
            have : j + q < x.length := by rw [hxl]; exact hlow q hq'
            simp [List.getD, List.getElem?_eq_getElem this]
          rcases hk' with hk' | hk'
          · exact hr2 hk' _ _ _ h10 h11
          · exact (hr1 _ _ _ h10 h11).scalar (noSl_at hk' hq)) h
        obtain ⟨u, h10, h11⟩ := run_loadVar (P := C.P) ht ⟨b, p * ie.ks.length + j, none⟩ (us := (List.range i.ks.length).map fun q => uu (j + q)) (by simp)
        refine ⟨u, _, c', S', b, fun w2 hw2 => ?_, hg.step, mkV_sound h8 h11, h7, hblk, fun h => by simp [isR] at h⟩
        have := h10 w2 (fun q u hq => by
          have hq' := (List.getElem?_eq_some_iff.1 hq).1
          simp at hq'
          simp [hq'] at hq
          rw [add_plain, Nat.add_assoc, cell_eq (by exact hw2), hcell _ (hlow q hq'), hq])
        simpa [Instr.loadAt, Instr.sureAddr] using this
      · exact h.elim
    · exact h.elim
  · rename_i i ks ds j hi
    obtain ⟨inf, z, ht⟩ := hT.at hi
    obtain ⟨a, rfl, h1, h2, h3, h4⟩ := hv.inv1
    obtain ⟨hb, h⟩ := guardT_eq h
    have hks := lksEq_t hb
    have hn : ∀ q, q < i.ks.length → j + q < ks.length := by
      have := congrArg List.length hks
      rw [sub_eq] at this
      simp at this
      intro q hq
      omega
    have cells : ∀ q, q < i.ks.length → ∃ v, w.cell? (a.add q) = some v ∧ ∀ κ, i.ks[q]? = some κ → Rd C.T w c.Z κ (ds.getD (j + q) default) v := by
      intro q hq
      have h5 := List.getElem?_eq_getElem hq
      have h6 := getElem_sub hks rfl h5
      have h7 : j + q < ds.length := by rw [h3]; exact hn q hq
      obtain ⟨v, h8, h9⟩ := h4 q _ _ h6 (List.getElem?_eq_getElem h7)
      refine ⟨v, h8, fun κ hκ => ?_⟩
      rw [h5] at hκ; cases hκ
      simpa [List.getD, List.getElem?_eq_getElem h7] using h9
    let f : Nat → Value := fun q => if hq : q < i.ks.length then (cells q hq).choose else undef
    have hf : ∀ q (hq : q < i.ks.length), f q = (cells q hq).choose := fun q hq => by simp [f, hq]
    obtain ⟨ls, h7, h8, h9⟩ := leaves_sound (T := C.T) (w := w) (c := c) (S := S) (nx := nx) ((List.range i.ks.length).map f) (by simp) (fun q κ hq => by
      have hq' := (List.getElem?_eq_some_iff.1 hq).1
      refine ⟨f q, by simp [hq'], ?_⟩
      rw [hf q hq']
      exact (cells q hq').choose_spec.2 κ hq) h
    obtain ⟨u, h10, h11⟩ := run_loadVar (P := C.P) ht a (us := (List.range i.ks.length).map f) (by simp)
    refine ⟨u, _, c, S, a.block, fun w2 hw2 => ?_, Step.refl hs, mkV_sound h8 h11, force_eq h7, hs.zlt _ h2, fun _ => h2⟩
    have := h10 w2 (fun q u hq => by
      have hq' := (List.getElem?_eq_some_iff.1 hq).1
      simp at hq'
      simp [hq'] at hq
      subst hq
      rw [hf q hq']
      exact (cell_eq (w := w) (w' := w2) (a := a.add q) (by rw [block_add]; exact hw2)).trans (cells q hq').choose_spec.1)
    simpa [Instr.loadAt, Instr.sureAddr] using this
  · exact h.elim
theorem load_sound (hT : TOk C.P C.T) {t : TypeId} {v : V} (h : loadwp C t v S fun v S => K v S nx) (hs : Sat C.T w c S nx) {u : Value} (hv : VR C.T w c S nx v u) :
    Good C.P C.T w c S nx ((do pure (Next.value (← Instr.loadAt t u)) : Sem Next).run C.P w) K := by
  obtain ⟨u', v', c', S', b, h1, h2, h3, h4, _⟩ := load_soundL hT h hs hv
  exact Good.run (h1 w rfl) h2 h3 h4
end Go.Proofs.Ytodhnbjncmihkaa.V
end

section
/- The symbolic machine V: numbers, truth values, strings; operations that leave memory alone. -/
set_option linter.unusedVariables false
set_option linter.unusedSimpArgs false
namespace Go.Proofs.Ytodhnbjncmihkaa.V
open Go
variable {C : Cfg} {w : World} {c : Cx} {S : Sto} {nx : Nat} {K : V → Sto → Nat → Prop}

theorem rng_wrap (k : IntKind) (n : Int) : rng k (k.wrap n) := by
  cases k <;> simp only [rng, IntKind.wrap, IntKind.bits, IntKind.signed] <;> simp <;> (try split) <;> omega
theorem rng_of_wrap {k : IntKind} {n : Int} (h : rng k n) : k.wrap n = n := by
  cases k <;> simp only [rng] at h
  · exact IntWalk.i8_in n h
  · exact IntWalk.i16_in n h
  · exact IntWalk.i32_in n h
  · exact IntWalk.i64_in n h
  · exact IntWalk.u8_in n h
  · exact IntWalk.u16_in n h
  · exact IntWalk.u32_in n h
  · exact IntWalk.u64_in n h
theorem fdiv_between (a : Int) (m : Nat) : (0 ≤ a → 0 ≤ a.fdiv (2 ^ m) ∧ a.fdiv (2 ^ m) ≤ a) ∧ (a < 0 → a ≤ a.fdiv (2 ^ m) ∧ a.fdiv (2 ^ m) ≤ 0) := by
  have hp : (0 : Int) < 2 ^ m := Int.pow_pos (by decide)
  rw [Int.fdiv_eq_ediv_of_nonneg _ (Int.le_of_lt hp)]
  generalize (2 : Int) ^ m = d at hp
  refine ⟨fun h => ⟨Int.ediv_nonneg h (Int.le_of_lt hp), ?_⟩, fun h => ⟨?_, ?_⟩⟩
  · exact Int.ediv_le_self d h
  · have h1 := Int.mul_ediv_add_emod a d
    have h2 := Int.emod_nonneg a (Int.ne_of_gt hp)
    have h3 := Int.emod_lt_of_pos a hp
    rcases (by omega : a / d < a ∨ a ≤ a / d) with h4 | h4
    · exfalso
      have h5 : d * (a / d) ≤ 1 * (a / d) := by
        have : a / d < 0 := by omega
        exact Int.mul_le_mul_of_nonpos_right (by omega) (by omega)
      have h6 : d * (a / d) ≤ d * (a - 1) := Int.mul_le_mul_of_nonneg_left (by omega) (by omega)
      have h7 : d * (a - 1) = d * a - d := by rw [Int.mul_sub, Int.mul_one]
      have h8 : d * a ≤ 1 * a := Int.mul_le_mul_of_nonpos_right (by omega) (by omega)
      omega
    · exact h4
  · rcases (by omega : 0 < a / d ∨ a / d ≤ 0) with h4 | h4
    · exfalso
      have h1 := Int.mul_ediv_add_emod a d
      have h2 := Int.emod_nonneg a (Int.ne_of_gt hp)
      have h5 : 0 < d * (a / d) := Int.mul_pos hp h4
      omega
    · exact h4
theorem rng_fdiv {k : IntKind} {a : Int} (h : rng k a) (m : Nat) : rng k (a.fdiv (2 ^ m)) := by
  obtain ⟨h1, h2⟩ := fdiv_between a m
  rcases (by omega : a < 0 ∨ 0 ≤ a) with h0 | h0
  · have := h2 h0
    cases k <;> simp only [rng] at h ⊢ <;> omega
  · have := h1 h0
    cases k <;> simp only [rng] at h ⊢ <;> omega
theorem tmod_between (a b : Int) : (0 ≤ a → 0 ≤ a.tmod b ∧ a.tmod b ≤ a) ∧ (a < 0 → a ≤ a.tmod b ∧ a.tmod b ≤ 0) := by
  have key : ∀ a : Int, 0 ≤ a → 0 ≤ a.tmod b ∧ a.tmod b ≤ a := by
    intro a h
    obtain ⟨n, rfl⟩ := Int.eq_ofNat_of_zero_le h
    have : (Int.ofNat n).tmod b = Int.ofNat (n % b.natAbs) := by
      cases b with
      | ofNat m => rfl
      | negSucc m => rfl
    have h1 := Nat.mod_le n b.natAbs
    have h2 : ((n : Nat) : Int).tmod b = ((n % b.natAbs : Nat) : Int) := this
    rw [h2]; omega
  refine ⟨key a, fun h => ?_⟩
  have := key (-a) (by omega)
  rw [Int.neg_tmod] at this
  omega
theorem rng_tmod {k : IntKind} {a : Int} (h : rng k a) (b : Int) : rng k (a.tmod b) := by
  obtain ⟨h1, h2⟩ := tmod_between a b
  rcases (by omega : a < 0 ∨ 0 ≤ a) with h0 | h0
  · have := h2 h0
    cases k <;> simp only [rng] at h ⊢ <;> omega
  · have := h1 h0
    cases k <;> simp only [rng] at h ⊢ <;> omega
theorem LR.int {T : TypeId → Option TI} {k : IntKind} {n : Int} (h : rng k n) : LR T w c S nx (.sc (.int k n)) (.int k n) := ⟨rfl, rfl, (fun _ _ e => by cases e; exact h), (fun _ e => nomatch e)⟩
theorem LR.boolv {T : TypeId → Option TI} (b : Bool) : LR T w c S nx (.sc (.bool b)) (.bool b) := ⟨rfl, rfl, (fun _ _ e => nomatch e), (fun _ e => nomatch e)⟩
theorem LR.strv {T : TypeId → Option TI} {s : ByteArray} (h : s.size ≤ maxI) : LR T w c S nx (.sc (.string s)) (.string s) := ⟨rfl, rfl, (fun _ _ e => nomatch e), (fun _ e => by cases e; exact h)⟩
theorem LR.toB {T : TypeId → Option TI} {l : L} {u : Value} {b : Bool} (h : LR T w c S nx l u) (hb : toB l = some b) : u = .bool b := by
  unfold V.toB at hb
  split at hb
  · cases hb; exact h
  · cases hb; exact h.1
  · cases hb
theorem bits_eq (op : BinOp) (k : IntKind) (a b : Int) (h : op = .and ∨ op = .or ∨ op = .xor ∨ op = .andNot) (P : Program) (w : World) : (Op.intBits op k a b).run P w = .ok (.int k (Go.bits op k a b)) w ∧ rng k (Go.bits op k a b) := by
  rcases h with rfl | rfl | rfl | rfl <;> exact ⟨rfl, rng_wrap _ _⟩
theorem toList_beq (a b : ByteArray) : (a.toList == b.toList) = decide (a = b) := by
  by_cases h : a = b
  · subst h; simp
  · simp only [h, decide_false]
    refine Bool.eq_false_iff.2 fun h' => h ?_
    have h1 : a.toList = b.toList := by simpa using h'
    rw [ByteArray.toList_eq, ByteArray.toList_eq] at h1
    have h2 : a.data = b.data := Array.ext' h1
    cases a; cases b; simpa using h2

theorem eqGuard_one {P : Program} (op : BinOp) (t : TypeId) (x y : Operand) (a b : Value) (ha : (∀ cs, a ≠ .agg cs) ∧ a ≠ .nilIface) : (eqGuard op t x y a b).run P w = .ok () w := by
  cases a <;> first | exact absurd rfl ha.2 | exact absurd rfl (ha.1 _) | (cases op <;> simp [eqGuard])
theorem bin_sound {P : Program} {T : TypeId → Option TI} {bt : Bool} {op : BinOp} {t : TypeId} (hbt : bt = true → P.underlying t = some .bool) {x y : L} {u v : Value} (hx : LR T w c S nx x u) (hy : LR T w c S nx y v) {K : L → Prop} (h : bin bt op x y K) (ox oy : Operand) :
    ∃ l r, (∀ w2, (do eqGuard op t ox oy u v; binOp op t u v : Sem Value).run P w2 = .ok r w2) ∧ LR T w c S nx l r ∧ K l := by
  unfold bin at h
  split at h
  · -- numbers
    rename_i k a k' b
    obtain ⟨rfl, _, ha, _⟩ := hx
    obtain ⟨rfl, _, hb, _⟩ := hy
    replace ha := ha _ _ rfl
    replace hb := hb _ _ rfl
    have G : ∀ w2, (do eqGuard op t ox oy (.int k a) (.int k' b); binOp op t (.int k a) (.int k' b) : Sem Value).run P w2 = (binOp op t (.int k a) (.int k' b)).run P w2 := fun w2 => by
      rw [Sem.run_bind, eqGuard_one op t ox oy (.int k a) (.int k' b) ⟨by simp, by simp⟩]
      simp only [Result.andThen_ok]
    simp only [G]
    clear G
    split at h
    · obtain ⟨h0, h⟩ := h
      exact ⟨_, _, fun w2 => by simp [binOp, Op.shift, show ¬ b < 0 by omega], LR.int (rng_wrap _ _), h⟩
    · obtain ⟨h0, h⟩ := h
      exact ⟨_, _, fun w2 => by simp [binOp, Op.shift, show ¬ b < 0 by omega], LR.int (rng_fdiv ha _), h⟩
    · split at h
      · exact h.elim
      · rename_i n1 n2 _ hk
        cases kEq_t hk
        split at h
        · exact ⟨_, _, fun w2 => by simp [binOp, Op.intArith], LR.int (rng_wrap _ _), h⟩
        · exact ⟨_, _, fun w2 => by simp [binOp, Op.intArith], LR.int (rng_wrap _ _), h⟩
        · exact ⟨_, _, fun w2 => by simp [binOp, Op.intArith], LR.int (rng_wrap _ _), h⟩
        · obtain ⟨h0, h⟩ := h
          exact ⟨_, _, fun w2 => by simp [binOp, Op.intDiv, h0], LR.int (rng_wrap _ _), h⟩
        · obtain ⟨h0, h⟩ := h
          exact ⟨_, _, fun w2 => by simp [binOp, Op.intDiv, h0], LR.int (rng_tmod ha _), h⟩
        · exact ⟨_, _, fun w2 => by simp [binOp, Op.intCmp]; rfl, LR.boolv _, h⟩
        · refine ⟨_, .bool (decide (a ≠ b)), ?_, LR.boolv _, h⟩
          have : (a != b) = decide (a ≠ b) := by by_cases h : a = b <;> simp [h]
          intro w2
          simp [binOp, Op.intCmp, this]
        · exact ⟨_, _, fun w2 => by simp [binOp, Op.intCmp], LR.boolv _, h⟩
        · exact ⟨_, _, fun w2 => by simp [binOp, Op.intCmp], LR.boolv _, h⟩
        · exact ⟨_, _, fun w2 => by simp [binOp, Op.intCmp], LR.boolv _, h⟩
        · exact ⟨_, _, fun w2 => by simp [binOp, Op.intCmp], LR.boolv _, h⟩
        · have hop : op = .and ∨ op = .or ∨ op = .xor ∨ op = .andNot := by
            cases op <;> simp_all
          obtain ⟨_, h2⟩ := bits_eq op k a b hop P w
          refine ⟨_, _, fun w2 => ?_, LR.int h2, h⟩
          rw [← (bits_eq op k a b hop P w2).1]
          rcases hop with rfl | rfl | rfl | rfl <;> simp [binOp]
  · rename_i a b
    obtain ⟨rfl, _, _, ha⟩ := hx
    obtain ⟨rfl, _, _, hb⟩ := hy
    replace ha := ha _ rfl
    replace hb := hb _ rfl
    have G : ∀ w2, (do eqGuard op t ox oy (.string a) (.string b); binOp op t (.string a) (.string b) : Sem Value).run P w2 = (binOp op t (.string a) (.string b)).run P w2 := fun w2 => by
      rw [Sem.run_bind, eqGuard_one op t ox oy (.string a) (.string b) ⟨by simp, by simp⟩]
      simp only [Result.andThen_ok]
    simp only [G]
    clear G
    split at h
    · obtain ⟨h0, h⟩ := h
      exact ⟨_, _, fun w2 => by simp [binOp, Op.stringOp, IntKind.max, IntKind.bits, IntKind.signed]; omega, LR.strv (by simp [maxI]; omega), h⟩
    · exact ⟨_, _, fun w2 => by simp [binOp, Op.stringOp, toList_beq], LR.boolv _, h⟩
    · exact ⟨_, _, fun w2 => by simp [binOp, Op.stringOp, toList_beq], LR.boolv _, h⟩
    · exact h.elim
  · split at h
    · rename_i a b e1 e2
      cases LR.toB hx e1
      cases LR.toB hy e2
      have G : ∀ w2, (do eqGuard op t ox oy (.bool a) (.bool b); binOp op t (.bool a) (.bool b) : Sem Value).run P w2 = (binOp op t (.bool a) (.bool b)).run P w2 := fun w2 => by
        rw [Sem.run_bind, eqGuard_one op t ox oy (.bool a) (.bool b) ⟨by simp, by simp⟩]
        simp only [Result.andThen_ok]
      simp only [G]
      clear G
      split at h
      · exact ⟨_, _, fun w2 => run_eql_bool w2 t a b (hbt rfl), LR.boolv _, h⟩
      · exact ⟨_, _, fun w2 => run_neq_bool w2 t a b (hbt rfl), LR.boolv _, h⟩
      · exact h.elim
    · exact h.elim
theorem un_sound {P : Program} {T : TypeId → Option TI} {op : UnOp} {x : L} {u : Value} (hx : LR T w c S nx x u) {K : L → Prop} (h : un op x K) :
    ∃ l r, (∀ w2, (Op.unary op u).run P w2 = .ok r w2) ∧ LR T w c S nx l r ∧ K l := by
  unfold un at h
  split at h
  · obtain ⟨rfl, _⟩ := hx
    exact ⟨_, _, fun _ => rfl, LR.int (rng_wrap _ _), h⟩
  · rename_i b
    cases hx
    exact ⟨.kb (!b), .bool (!b), fun _ => rfl, by simp [LR], h⟩
  · obtain ⟨rfl, _⟩ := hx
    exact ⟨_, _, fun _ => rfl, LR.boolv _, h⟩
  · exact h.elim
end Go.Proofs.Ytodhnbjncmihkaa.V
end

section
/- The symbolic machine V: addresses, parts, slices. -/
set_option linter.unusedVariables false
set_option linter.unusedSimpArgs false
namespace Go.Proofs.Ytodhnbjncmihkaa.V
open Go
variable {C : Cfg} {w : World} {c : Cx} {S : Sto} {nx : Nat} {K : V → Sto → Nat → Prop}

theorem Rd.int_of {T : TypeId → Option TI} {l : V} {u : Value} {n : Int} (h : VR T w c S nx l u) (hi : intOf l = some n) : ∃ k, u = .int k n ∧ rng k n := by
  unfold intOf at hi
  split at hi
  · cases hi
    obtain ⟨rfl, _, h, _⟩ := h.inv1
    exact ⟨_, rfl, h _ _ rfl⟩
  · cases hi
theorem str_of {T : TypeId → Option TI} {l : V} {u : Value} {s : ByteArray} (h : VR T w c S nx l u) (hi : strOf l = some s) : u = .string s ∧ s.size ≤ maxI := by
  unfold strOf at hi
  split at hi
  · cases hi
    obtain ⟨rfl, _, _, h⟩ := h.inv1
    exact ⟨rfl, h _ rfl⟩
  · cases hi
theorem fsOk_at {P : Program} : ∀ {fs : List (Nat × TypeId)} {l : List Field} {f o ft : Nat}, fsOk P fs l = true → fieldOff fs f = some (o, ft) → ∃ fl, l[f]? = some fl ∧ fl.offset = o ∧ fl.type = ft ∧ ∃ i, P.info? ft = some i ∧ i.size ≠ 0
  | [], [], f, o, ft, _, h => by simp [fieldOff] at h
  | [], _ :: _, _, _, _, h, _ => by simp [fsOk] at h
  | _ :: _, [], _, _, _, h, _ => by simp [fsOk] at h
  | (o', t') :: fs, fl :: l, f, o, ft, h, h' => by
    simp only [fsOk, Bool.and_eq_true] at h
    obtain ⟨⟨⟨h1, h2⟩, h3⟩, h4⟩ := h
    cases f with
    | zero =>
      simp only [fieldOff, Option.some.injEq, Prod.mk.injEq] at h'
      obtain ⟨rfl, rfl⟩ := h'
      refine ⟨fl, rfl, (beq_t h1).symm, (beq_t h2).symm, ?_⟩
      rw [beq_t h2]
      split at h3
      · rename_i i hi
        refine ⟨i, hi, fun e => ?_⟩
        rw [e] at h3; simp at h3
      · simp at h3
    | succ f => exact fsOk_at (fs := fs) (l := l) h4 h'
theorem TyF.st {P : Program} {t : TypeId} {i : TI} {inf : TypeInfo} {z : Value} (h : TyF P t i inf z) {fs : List (Nat × TypeId)} (hd : i.d = .st fs) : ∃ arr, P.underlying t = some (.struct arr) ∧ fsOk P fs arr.toList = true := by
  have := h.d
  unfold dOk at this
  rw [hd] at this
  split at this <;> first | (simp at this; done) | (rename_i h1 h2; first | (cases h1; exact ⟨_, h2, this⟩) | cases h1)
theorem TyF.arr {P : Program} {t e : TypeId} {i : TI} {n : Nat} {inf : TypeInfo} {z : Value} (h : TyF P t i inf z) (hd : i.d = .arr n e) : P.underlying t = some (.array n e) := by
  have := h.d
  unfold dOk at this
  rw [hd] at this
  split at this <;> first | (simp at this; done) | (rename_i h1 h2; first | (cases h1; simp only [Bool.and_eq_true] at this; rw [h2, beq_t this.1, beq_t this.2]) | cases h1)
theorem TyF.intT {P : Program} {t : TypeId} {i : TI} {k : IntKind} {inf : TypeInfo} {z : Value} (h : TyF P t i inf z) (hd : i.d = .int k) : P.underlying t = some (.int k) := by
  have := h.d
  unfold dOk at this
  rw [hd] at this
  split at this <;> first | (simp at this; done) | (rename_i h1 h2; first | (cases h1; cases kEq_t this; exact h2) | cases h1)
theorem TyF.strT {P : Program} {t : TypeId} {i : TI} {inf : TypeInfo} {z : Value} (h : TyF P t i inf z) (hd : i.d = .str) : P.underlying t = some .string := by
  have := h.d
  unfold dOk at this
  rw [hd] at this
  split at this <;> first | (simp at this; done) | (rename_i h1 h2; first | (cases h1; exact h2) | cases h1)
theorem TyF.boolT {P : Program} {t : TypeId} {i : TI} {inf : TypeInfo} {z : Value} (h : TyF P t i inf z) (hd : i.d = .bool) : P.underlying t = some .bool := by
  have := h.d
  unfold dOk at this
  rw [hd] at this
  split at this <;> first | (simp at this; done) | (rename_i h1 h2; first | (cases h1; exact h2) | cases h1)

theorem spot_add {a : Addr} (h : a.spot = none) (n : Nat) : (a.add n).spot = none := by unfold Addr.add; split <;> simp [h]
theorem add_add' {a : Addr} (h : a.spot = none) (n m : Nat) : (a.add n).add m = a.add (n + m) := by
  obtain ⟨b, o, s⟩ := a
  simp at h; subst h
  rw [add_plain, add_plain, add_plain, Nat.add_assoc]
/-- A pointer moves on. -/
theorem LR.move {T : TypeId → Option TI} {id ver p j o : Nat} {a : Addr} (h : LR T w c S nx (.ptr id ver p j) (.pointer (some a))) : LR T w c S nx (.ptr id ver p (j + o)) (.pointer (some (a.add o))) := by
  obtain ⟨h1, _, h2, h3⟩ := h
  refine ⟨h1, ⟨_, rfl⟩, fun e k ver' xs hr => ?_, fun t ls hr => ?_⟩
  · obtain ⟨h4, h5⟩ := h2 _ _ _ _ hr
    refine ⟨h4, fun he => ⟨(h5 he).1, fun i hi => ?_⟩⟩
    obtain ⟨b, cap, h6, h7⟩ := (h5 he).2 i hi
    cases h7
    exact ⟨b, cap, h6, by rw [add_plain, Nat.add_assoc]⟩
  · obtain ⟨b, h4, h5⟩ := h3 _ _ hr
    cases h5
    exact ⟨b, h4, by rw [add_plain]⟩
theorem LR.rmove {T : TypeId → Option TI} {ks : List LK} {ds : List D} {j o : Nat} {a : Addr} (h : LR T w c S nx (.rptr ks ds j) (.pointer (some a))) : LR T w c S nx (.rptr ks ds (j + o)) (.pointer (some (a.add o))) := by
  obtain ⟨a', h0, h1, h2, h3, h4⟩ := h
  cases h0
  refine ⟨_, rfl, spot_add h1 _, by rw [block_add]; exact h2, h3, fun q κ d hk hd => ?_⟩
  obtain ⟨v, h5, h6⟩ := h4 (o + q) κ d (by rwa [← Nat.add_assoc]) (by rwa [← Nat.add_assoc])
  exact ⟨v, by rwa [add_add' h1], h6⟩

theorem run_fieldAt {P : Program} {T : TypeId → Option TI} (hT : TOk P T) {t : TypeId} {i : TI} (hi : T t = some i) {fs : List (Nat × TypeId)} (hd : i.d = .st fs) {f o ft : Nat} (hf : fieldOff fs f = some (o, ft)) (a : Addr) :
    (Instr.fieldAt t (.pointer (some a)) f).run P w = .ok (.pointer (some (a.add o))) w := by
  obtain ⟨inf, z, ht⟩ := hT.at hi
  obtain ⟨arr, hu, hfs⟩ := ht.st hd
  obtain ⟨fl, h1, h2, h3, i', h4, h5⟩ := fsOk_at hfs hf
  have h1' : arr[f]? = some fl := by simpa using h1
  simp [Instr.fieldAt, underlying, hu, h1', Instr.sureAddr, fieldPlace, sizeOf, typeInfo, h3, h4, h5, h2]
theorem LRs.sub {T : TypeId → Option TI} {ls : List L} {us : List Value} (h : LRs T w c S nx ls us) (j n : Nat) : LRs T w c S nx (V.sub ls j n) (V.sub us j n) := by
  rw [sub_eq, sub_eq]
  refine ⟨by simp [h.1], fun q l hq => ?_⟩
  have h1 := (List.getElem?_eq_some_iff.1 hq).1
  simp at h1
  rw [List.getElem?_take_of_lt (by omega), List.getElem?_drop] at hq ⊢
  exact h.2 _ _ hq
theorem field_sound (hT : TOk C.P C.T) {t f : Nat} {i fi : TI} {ls : List L} {us : Array Value} (hl : LRs C.T w c S nx ls us.toList) (hi : C.T t = some i) {fs : List (Nat × TypeId)} (hd : i.d = .st fs) {o ft : Nat} (hf : fieldOff fs f = some (o, ft)) (hfi : C.T ft = some fi)
    (hb : o + fi.ks.length ≤ ls.length) : ∃ u, (∀ w2, (Instr.field t (.agg us) f).run C.P w2 = .ok u w2) ∧ VR C.T w c S nx (mkV fi (sub ls o fi.ks.length)) u := by
  obtain ⟨inf, z, ht⟩ := hT.at hi
  obtain ⟨arr, hu, hfs⟩ := ht.st hd
  obtain ⟨fl, h1, h2, h3, i', h4, h5⟩ := fsOk_at hfs hf
  obtain ⟨infi, zi, hti⟩ := hT.at hfi
  have h1' : arr[f]? = some fl := by simpa using h1
  have hs := hl.sub o fi.ks.length
  have hlen := hl.1
  simp at hlen
  cases ha : fi.isAgg with
  | true =>
    refine ⟨.agg (us.extract o (o + fi.ks.length)), ?_, mkV_sound hs (.inl ⟨ha, ?_⟩)⟩
    · intro w2; simp [Instr.field, underlying, hu, h1', part, h3, hti.agg, ha, asAgg, hti.cells, h2]
    · congr 1
      apply Array.ext'
      rw [sub_eq]
      simp
  | false =>
    have hone := hti.one ha
    have hlt : o < us.size := by omega
    refine ⟨us[o], ?_, mkV_sound hs (.inr ⟨ha, ?_⟩)⟩
    · intro w2; simp [Instr.field, underlying, hu, h1', part, h3, hti.agg, ha, asAgg, h2, hlt]
    · rw [sub_eq, hone]
      have : us.toList.drop o = us[o] :: us.toList.drop (o + 1) := by
        rw [List.drop_eq_getElem_cons (by simpa using hlt)]; simp
      rw [this]; rfl

theorem run_indexSl {P : Program} {t e : TypeId} {ie : TI} {inf : TypeInfo} {z : Value} (hu : P.underlying t = some (.slice e)) (he : TyF P e ie inf z) (a : Addr) (len cap : Nat) (k : IntKind) (n : Int) (h : 0 ≤ n ∧ n < (len : Int)) :
    (Instr.indexAt t (.slice (some a) len cap) (.int k n)).run P w = .ok (.pointer (some (a.add (n.toNat * ie.ks.length)))) w := by
  simp [Instr.indexAt, asIntOf, underlying, hu, he.cells, h]
theorem run_indexArr {P : Program} {t e : TypeId} {ie : TI} {inf : TypeInfo} {z : Value} {len : Nat} (hu : P.underlying t = some (.array len e)) (he : TyF P e ie inf z) (a : Addr) (k : IntKind) (n : Int) (h : 0 ≤ n ∧ n < (len : Int)) :
    (Instr.indexAt t (.pointer (some a)) (.int k n)).run P w = .ok (.pointer (some (a.add (n.toNat * ie.ks.length)))) w := by
  simp [Instr.indexAt, asIntOf, underlying, hu, he.cells, h, Instr.sureAddr]
theorem OS.elem {T : TypeId → Option TI} {id : Nat} {e k ver xs} (h : OS T w c S nx id (.row e k ver xs)) {b cap : Nat} (hc : c.cur id = .slice (some ⟨b, 0, none⟩) xs.length cap) : xs.length ≤ cap := by
  have h1 := h.rd
  rw [hc] at h1
  generalize hv : (Value.slice (some ⟨b, 0, none⟩) xs.length cap) = v at h1
  cases h1 with
  | nil => simp
  | sl u hT hm hle => injection hv with _ _ h3; omega
theorem index_sound (hT : TOk C.P C.T) (hs : Sat C.T w c S nx) {t : TypeId} {v ix : V} {u ui : Value} (hv : VR C.T w c S nx v u) (hx : VR C.T w c S nx ix ui) {K : V → Prop} (h : indexwp C t v ix S K) :
    ∃ r v', (∀ w2, (Instr.indexAt t u ui).run C.P w2 = .ok r w2) ∧ VR C.T w c S nx v' r ∧ K v' := by
  unfold indexwp at h
  split at h
  · rename_i i n hi hn
    obtain ⟨inf, z, ht⟩ := hT.at hi
    obtain ⟨k, rfl, hr⟩ := Rd.int_of hx hn
    split at h
    · rename_i e hd
      have hu := ht.sl hd
      split at h
      · rename_i e' xs ie hie
        obtain ⟨infe, ze, he⟩ := hT.at hie
        replace h := guardT_eq h
        obtain ⟨hb, hin, h⟩ := h
        cases beq_t hb
        have h1 : Rd C.T w c.Z (.sl e) (.sl xs) u := hv.inv1
        cases h1 with
        | nil => simp at hin; omega
        | @sl _ i' _ a cap u hT' hm hle hZ hs' hx' hc hr' =>
          obtain rfl : ie = i' := by rw [hie] at hT'; exact Option.some.inj hT'
          refine ⟨_, .one (.rptr ie.ks (xs.getD n.toNat []) 0), fun _ => run_indexSl hu he a _ _ k n hin, .one ?_, h⟩
          have hlt : n.toNat < xs.length := by omega
          have hg : xs[n.toNat]? = some (xs[n.toNat]'hlt) := List.getElem?_eq_getElem hlt
          have hgd : xs.getD n.toNat [] = xs[n.toNat]'hlt := by simp [List.getD, hg]
          rw [hgd]
          refine ⟨_, rfl, spot_add hs' _, by rw [block_add]; exact hZ, hx' _ _ hg, fun q κ d hk hd => ?_⟩
          simp only [Nat.zero_add] at hk hd
          exact ⟨_, by rw [add_add' hs']; exact hc _ _ hlt (List.getElem?_eq_some_iff.1 hk).1, hr' _ _ _ _ _ hg hk hd⟩
      · rename_i id ver ie hie
        obtain ⟨infe, ze, he⟩ := hT.at hie
        split at h
        · rename_i e' k' ver' xs hr0
          replace h := guardT_eq h
          obtain ⟨hb, hin, h⟩ := h
          simp only [Bool.and_eq_true] at hb
          cases beq_t hb.1
          cases beq_t hb.2
          obtain ⟨h1, _, h2⟩ := hv.inv1
          have hcur := (h2 _ _ _ _ hr0).2 rfl
          have h0 := hs.os id
          rw [hr0] at h0
          obtain ⟨b, cap, h3⟩ := h0.cur (by omega)
          rw [hcur, h3]
          refine ⟨_, .one (.ptr id ver n.toNat 0), fun _ => run_indexSl hu he _ _ _ k n hin, .one ⟨h1, ⟨_, rfl⟩, fun e2 k2 v2 x2 hr2 => ?_, fun t ls hb => ?_⟩, h⟩
          · rw [hr0] at hr2; cases hr2
            refine ⟨Nat.le_refl _, fun _ => ⟨by omega, fun i hi => ?_⟩⟩
            rw [hie] at hi; cases hi
            exact ⟨b, cap, h3, by rw [add_plain, Nat.zero_add, Nat.add_zero]⟩
          · rw [hr0] at hb; cases hb
        · exact h.elim
      · rename_i id ver lo len ie hie
        obtain ⟨infe, ze, he⟩ := hT.at hie
        split at h
        · rename_i e' k' ver' xs hr0
          replace h := guardT_eq h
          obtain ⟨hb, hin, h⟩ := h
          simp only [Bool.and_eq_true] at hb
          cases beq_t hb.1
          cases beq_t hb.2
          obtain ⟨h1, _, h2⟩ := hv.inv1
          obtain ⟨hle, h4, _⟩ := (h2 _ _ _ _ hr0).2 rfl
          obtain ⟨b, cap, m, h5, h6⟩ := h4 ie hie (by omega)
          subst h6
          refine ⟨_, .one (.ptr id ver (lo + n.toNat) 0), fun _ => run_indexSl hu he _ _ _ k n hin, .one ⟨h1, ⟨_, rfl⟩, fun e2 k2 v2 x2 hr2 => ?_, fun t ls hb => ?_⟩, h⟩
          · rw [hr0] at hr2; cases hr2
            refine ⟨Nat.le_refl _, fun _ => ⟨by omega, fun i hi => ?_⟩⟩
            rw [hie] at hi; cases hi
            exact ⟨b, cap, h5, by rw [add_plain, Nat.add_zero, Nat.add_mul]⟩
          · rw [hr0] at hb; cases hb
        · exact h.elim
      · exact h.elim
    · rename_i len e hd
      have hu := ht.arr hd
      split at h
      · rename_i id ver p j ie hie
        obtain ⟨infe, ze, he⟩ := hT.at hie
        obtain ⟨hin, h⟩ := h
        obtain ⟨h1, ⟨a, rfl⟩, h2⟩ := hv.inv1
        exact ⟨_, _, fun _ => run_indexArr hu he a k n hin, .one (LR.move hv.inv1), h⟩
      · rename_i ks ds j ie hie
        obtain ⟨infe, ze, he⟩ := hT.at hie
        obtain ⟨hin, h⟩ := h
        obtain ⟨a, rfl, h2⟩ := hv.inv1
        exact ⟨_, _, fun _ => run_indexArr hu he a k n hin, .one (LR.rmove hv.inv1), h⟩
      · exact h.elim
    · exact h.elim
  · exact h.elim
end Go.Proofs.Ytodhnbjncmihkaa.V
end

section
/- The symbolic machine V: slices. -/
set_option linter.unusedVariables false
set_option linter.unusedSimpArgs false
namespace Go.Proofs.Ytodhnbjncmihkaa.V
open Go
variable {C : Cfg} {w : World} {c : Cx} {S : Sto} {nx : Nat} {K : V → Sto → Nat → Prop}

/-- A bound: what is written, or what stands for it. -/
def Bnd (x : Option Value) (n d : Nat) : Prop := (x = none ∧ n = d) ∨ ∃ k, x = some (.int k n)
theorem run_cutS {P : Program} {t e : TypeId} {ie : TI} {inf : TypeInfo} {z : Value} (hu : P.underlying t = some (.slice e)) (he : TyF P e ie inf z) (A : Option Addr) {len cap a b : Nat} {lo hi : Option Value} (hl : Bnd lo a 0) (hh : Bnd hi b len) (h1 : a ≤ b) (h2 : b ≤ len) (h3 : len ≤ cap) :
    (Instr.sliceAt t (.slice A len cap) lo hi none).run P w = .ok (.slice (if cap = a then A else A.map (·.add (a * ie.ks.length))) (b - a) (cap - a)) w := by
  have e3 : b ≤ cap := by omega
  rcases hl with ⟨rfl, rfl⟩ | ⟨k, rfl⟩ <;> rcases hh with ⟨rfl, rfl⟩ | ⟨k', rfl⟩ <;>
    simp [Instr.sliceAt, underlying, hu, Instr.slice, Instr.sliceBounds, Instr.sliceBound, asIntOf, he.cells, e3, h1, h2, h3]
theorem run_cutStr {P : Program} {t : TypeId} (hu : P.underlying t = some .string) {s : ByteArray} {a b : Nat} {lo hi : Option Value} (hl : Bnd lo a 0) (hh : Bnd hi b s.size) (h1 : a ≤ b) (h2 : b ≤ s.size) :
    (Instr.sliceAt t (.string s) lo hi none).run P w = .ok (.string (s.extract a b)) w := by
  rcases hl with ⟨rfl, rfl⟩ | ⟨k, rfl⟩ <;> rcases hh with ⟨rfl, rfl⟩ | ⟨k', rfl⟩ <;>
    simp [Instr.sliceAt, underlying, hu, Instr.slice, Instr.sliceBounds, Instr.sliceBound, asIntOf, h1, h2]
theorem boundOf_none {T : TypeId → Option TI} {F : Frm} {a : Act} (hF : ∀ t, VR T w c S nx (get F t) (a.tmps.getD t undef)) {x : Option Operand} (hx : ∀ o, x = some o → xOk o = true) (h : boundOf F x = some none) (d : Nat) : Bnd (x.map a.eval) d d := by
  unfold boundOf at h
  cases x with
  | none => exact .inl ⟨rfl, rfl⟩
  | some o => simp only at h; split at h <;> simp at h
theorem boundOf_some {T : TypeId → Option TI} {F : Frm} {a : Act} (hF : ∀ t, VR T w c S nx (get F t) (a.tmps.getD t undef)) {x : Option Operand} (hx : ∀ o, x = some o → xOk o = true) {n : Int} (h : boundOf F x = some (some n)) (h0 : 0 ≤ n) (d : Nat) : Bnd (x.map a.eval) n.toNat d := by
  unfold boundOf at h
  cases x with
  | none => simp at h
  | some o =>
    simp only at h
    split at h
    · rename_i m hm
      cases h
      obtain ⟨k, hk, _⟩ := Rd.int_of (ev_sound hF (hx o rfl)) hm
      exact .inr ⟨k, by simp [hk]; omega⟩
    · simp at h
theorem ro_cut (hT : TOk C.P C.T) {t e : TypeId} (hu : C.P.underlying t = some (.slice e)) {xs : List (List D)} {u : Value} (h : Rd C.T w c.Z (.sl e) (.sl xs) u) {ie : TI} (hie : C.T e = some ie) {a b : Nat} {lo hi : Option Value} (hl : Bnd lo a 0) (hh : Bnd hi b xs.length) (h1 : a ≤ b) (h2 : b ≤ xs.length) :
    ∃ r, (∀ w2, (Instr.sliceAt t u lo hi none).run C.P w2 = .ok r w2) ∧ Rd C.T w c.Z (.sl e) (.sl ((xs.take b).drop a)) r := by
  obtain ⟨infe, ze, he⟩ := hT.at hie
  cases h with
  | @nil _ A cap =>
    simp at h2
    subst h2
    obtain rfl : a = 0 := by omega
    exact ⟨_, fun _ => run_cutS hu he A hl hh (Nat.le_refl _) (Nat.le_refl _) (Nat.zero_le _), .nil⟩
  | @sl _ i' _ a' cap u hT' hm hle hZ hs' hx' hc hr' =>
    obtain rfl : ie = i' := by rw [hie] at hT'; exact Option.some.inj hT'
    refine ⟨_, fun _ => run_cutS hu he (some a') hl hh h1 h2 hle, ?_⟩
    have hlen : ((xs.take b).drop a).length = b - a := by simp; omega
    rcases Nat.eq_zero_or_pos (b - a) with h0 | h0
    · have : (xs.take b).drop a = [] := by apply List.eq_nil_of_length_eq_zero; omega
      rw [this, h0]
      exact .nil
    · rw [if_neg (by omega)]
      have hg : ∀ (p : Nat) (x : List D), ((xs.take b).drop a)[p]? = some x → p < b - a ∧ xs[a + p]? = some x := by
        intro p x hp
        have hp' := (List.getElem?_eq_some_iff.1 hp).1
        rw [hlen] at hp'
        rw [List.getElem?_drop, List.getElem?_take_of_lt (by omega)] at hp
        exact ⟨hp', hp⟩
      have key : Rd C.T w c.Z (.sl e) (.sl ((xs.take b).drop a)) (.slice (some (a'.add (a * ie.ks.length))) ((xs.take b).drop a).length (cap - a)) := by
        refine .sl (fun p j => u (a + p) j) hT' (by rw [hlen]; omega) (by rw [hlen]; omega) (by rw [block_add]; exact hZ) (spot_add hs' _) (fun p x hp => hx' _ x (hg p x hp).2) (fun p j h1 h2 => ?_) (fun p x j κ d h1 h2 h3 => hr' _ x j κ d (hg p x h1).2 h2 h3)
        rw [hlen] at h1
        have h3 := hc (a + p) j (by omega) h2
        rw [← h3, add_add' hs', Nat.add_mul, Nat.add_assoc]
      rw [hlen] at key
      exact key
theorem part_cut (hT : TOk C.P C.T) {t e : TypeId} (hu : C.P.underlying t = some (.slice e)) {id ver o n : Nat} {k' : RK} {xs : List (List D)} (hr0 : geto S id = .row e k' ver xs) {u : Value} {A : Option Addr} {m : Nat} (hid : id < nx) (hm : n ≤ m) (hu0 : u = .slice A n m)
    {ie : TI} (hie : C.T e = some ie) (hn : o + n ≤ xs.length) (hp : 0 < n → ∃ b cap, c.cur id = .slice (some ⟨b, 0, none⟩) xs.length cap ∧ A = some ⟨b, o * ie.ks.length, none⟩) (hz : o = 0 → ∃ B cap, c.cur id = .slice B xs.length cap ∧ A = B ∧ m = cap) {a b : Nat} {lo hi : Option Value} (hl : Bnd lo a 0) (hh : Bnd hi b n) (h1 : a ≤ b) (h2 : b ≤ n) :
    ∃ r, (∀ w2, (Instr.sliceAt t u lo hi none).run C.P w2 = .ok r w2) ∧ LR C.T w c S nx (.part id ver (o + a) (b - a)) r := by
  obtain ⟨infe, ze, he⟩ := hT.at hie
  subst hu0
  refine ⟨_, fun _ => run_cutS hu he A hl hh h1 h2 hm, hid, ⟨_, _, rfl, by omega⟩, fun e2 k2 v2 x2 hr2 => ?_⟩
  rw [hr0] at hr2; cases hr2
  refine ⟨Nat.le_refl _, fun _ => ⟨by omega, fun i hi h0 => ?_, fun h0 => ?_⟩⟩
  · rw [hie] at hi; cases hi
    obtain ⟨b0, cap, h3, h4⟩ := hp (by omega)
    refine ⟨b0, cap, m - a, h3, ?_⟩
    rw [if_neg (by omega), h4]
    simp [add_plain, Nat.add_mul]
  · obtain ⟨B, cap, h3, rfl, rfl⟩ := hz (by omega)
    refine ⟨_, _, h3, ?_⟩
    obtain rfl : a = 0 := by omega
    have : A.map (·.add (0 * ie.ks.length)) = A := by
      cases A with
      | none => rfl
      | some a => simp [Addr.add]
    rw [this]; simp
theorem slice_sound (hT : TOk C.P C.T) (hs : Sat C.T w c S nx) {F : Frm} {a : Act} (hF : ∀ t, VR C.T w c S nx (get F t) (a.tmps.getD t undef)) {t : TypeId} {i : TI} (hti : C.T t = some i) {v : V} {u : Value} (hv : VR C.T w c S nx v u) {lo hi : Option Operand}
    (hlo : ∀ o, lo = some o → xOk o = true) (hhi : ∀ o, hi = some o → xOk o = true) (hel : ∀ e, i.d = .sl e → ∃ ie, C.T e = some ie) {K : V → Prop} (h : slicewp i.d F v lo hi S K) :
    ∃ r v', (∀ w2, (Instr.sliceAt t u (lo.map a.eval) (hi.map a.eval) none).run C.P w2 = .ok r w2) ∧ VR C.T w c S nx v' r ∧ K v' := by
  obtain ⟨inf, z, ht⟩ := hT.at hti
  unfold slicewp at h
  split at h
  · rename_i l h' hl hh
    split at h
    · rename_i s hd
      have hu := ht.strT hd
      obtain ⟨rfl, hsz⟩ := str_of hv rfl
      have fin : ∀ {x y : Nat}, Bnd (lo.map a.eval) x 0 → Bnd (hi.map a.eval) y s.size → x ≤ y → y ≤ s.size → K (.one (.sc (.string (s.extract x y)))) → ∃ r v', (∀ w2, (Instr.sliceAt t (.string s) (lo.map a.eval) (hi.map a.eval) none).run C.P w2 = .ok r w2) ∧ VR C.T w c S nx v' r ∧ K v' :=
        fun b1 b2 h1 h2 hk => ⟨_, _, fun _ => run_cutStr hu b1 b2 h1 h2, .one (LR.strv (by simp; omega)), hk⟩
      split at h
      · refine fin (boundOf_none hF hlo hl 0) (boundOf_none hF hhi hh _) (Nat.zero_le _) (Nat.le_refl _) ?_
        have : s.extract 0 s.size = s := by simp
        rw [this]; exact h
      · obtain ⟨h1, h⟩ := h
        exact fin (boundOf_some hF hlo hl h1.1 0) (boundOf_none hF hhi hh _) (by omega) (Nat.le_refl _) h
      · obtain ⟨h1, h⟩ := h
        exact fin (boundOf_none hF hlo hl 0) (boundOf_some hF hhi hh h1.1 _) (by omega) (by omega) h
      · obtain ⟨h1, h⟩ := h
        exact fin (boundOf_some hF hlo hl h1.1 0) (boundOf_some hF hhi hh (by omega) _) (by omega) (by omega) h
    · rename_i e' e xs hd
      replace h := guardT_eq h
      obtain ⟨hb, h⟩ := h
      cases beq_t hb
      have hu := ht.sl hd
      obtain ⟨ie, hie⟩ := hel _ hd
      have hr : Rd C.T w c.Z (.sl e') (.sl xs) u := hv.inv1
      have fin : ∀ {x y : Nat}, Bnd (lo.map a.eval) x 0 → Bnd (hi.map a.eval) y xs.length → x ≤ y → y ≤ xs.length → K (.one (.ro e' ((xs.take y).drop x))) → ∃ r v', (∀ w2, (Instr.sliceAt t u (lo.map a.eval) (hi.map a.eval) none).run C.P w2 = .ok r w2) ∧ VR C.T w c S nx v' r ∧ K v' := by
        intro x y b1 b2 h1 h2 hk
        obtain ⟨r, h3, h4⟩ := ro_cut hT hu hr hie b1 b2 h1 h2
        exact ⟨r, .one (.ro e' ((xs.take y).drop x)), h3, .one h4, hk⟩
      split at h
      · exact fin (boundOf_none hF hlo hl 0) (boundOf_none hF hhi hh _) (Nat.zero_le _) (Nat.le_refl _) (by simpa using h)
      · obtain ⟨h1, h⟩ := h
        exact fin (boundOf_some hF hlo hl h1.1 0) (boundOf_none hF hhi hh _) (by omega) (Nat.le_refl _) (by simpa using h)
      · obtain ⟨h1, h⟩ := h
        exact fin (boundOf_none hF hlo hl 0) (boundOf_some hF hhi hh h1.1 _) (by omega) (by omega) (by simpa using h)
      · obtain ⟨h1, h⟩ := h
        exact fin (boundOf_some hF hlo hl h1.1 0) (boundOf_some hF hhi hh (by omega) _) (by omega) (by omega) h
    · rename_i e' id ver hd
      split at h
      · rename_i e k ver' xs hr0
        replace h := guardT_eq h
        obtain ⟨hb, h⟩ := h
        simp only [Bool.and_eq_true] at hb
        cases beq_t hb.1
        cases beq_t hb.2
        have hu := ht.sl hd
        obtain ⟨ie, hie⟩ := hel _ hd
        obtain ⟨h1, ⟨A, n, m, h3⟩, h2⟩ := hv.inv1
        have hcur := (h2 _ _ _ _ hr0).2 rfl
        have h0 := hs.os id
        rw [hr0] at h0
        have hrd := h0.rd
        have hnm : n = xs.length ∧ n ≤ m := by
          rw [← hcur, h3] at hrd
          cases hrd with
          | nil => exact ⟨rfl, Nat.zero_le _⟩
          | sl u hT hm hle => exact ⟨rfl, hle⟩
        obtain ⟨rfl, hnm⟩ := hnm
        have fin : ∀ {x y : Nat}, Bnd (lo.map a.eval) x 0 → Bnd (hi.map a.eval) y xs.length → x ≤ y → y ≤ xs.length → K (.one (.part id ver (0 + x) (y - x))) → ∃ r v', (∀ w2, (Instr.sliceAt t u (lo.map a.eval) (hi.map a.eval) none).run C.P w2 = .ok r w2) ∧ VR C.T w c S nx v' r ∧ K v' := by
          intro x y b1 b2 g1 g2 hk
          obtain ⟨r, g3, g4⟩ := part_cut (c := c) (ver := ver) (o := 0) hT hu hr0 h1 hnm h3 hie (by omega) (fun hp => by
            obtain ⟨b, cap, g5⟩ := h0.cur hp
            refine ⟨b, cap, g5, ?_⟩
            rw [← hcur, h3] at g5
            injection g5 with g6
            rw [g6]; simp) (fun _ => ⟨A, m, hcur.symm.trans h3, rfl, rfl⟩) b1 b2 g1 g2
          exact ⟨r, _, g3, .one g4, hk⟩
        split at h
        · obtain ⟨infe, ze, he⟩ := hT.at hie
          have b1 := boundOf_none hF hlo hl 0
          have b2 := boundOf_none hF hhi hh xs.length
          have g := fun w2 => run_cutS (w := w2) hu he A b1 b2 (Nat.zero_le _) (Nat.le_refl _) hnm
          rw [← h3] at g
          refine ⟨_, _, g, ?_, h⟩
          have : Value.slice (if m = 0 then A else A.map (·.add (0 * ie.ks.length))) (xs.length - 0) (m - 0) = u := by
            rw [h3]
            have : A.map (·.add (0 * ie.ks.length)) = A := by
              cases A with
              | none => rfl
              | some a => simp [Addr.add]
            rw [this]; simp
          rw [this]
          exact hv
        · obtain ⟨g1, h⟩ := h
          exact fin (boundOf_some hF hlo hl g1.1 0) (boundOf_none hF hhi hh _) (by omega) (Nat.le_refl _) (by simpa using h)
        · obtain ⟨g1, h⟩ := h
          exact fin (boundOf_none hF hlo hl 0) (boundOf_some hF hhi hh g1.1 _) (by omega) (by omega) (by simpa using h)
        · obtain ⟨g1, h⟩ := h
          exact fin (boundOf_some hF hlo hl g1.1 0) (boundOf_some hF hhi hh (by omega) _) (by omega) (by omega) (by simpa using h)
      · exact h.elim
    · rename_i e' id ver o n hd
      split at h
      · rename_i e k ver' xs hr0
        replace h := guardT_eq h
        obtain ⟨hb, h⟩ := h
        simp only [Bool.and_eq_true] at hb
        cases beq_t hb.1
        cases beq_t hb.2
        have hu := ht.sl hd
        obtain ⟨ie, hie⟩ := hel _ hd
        obtain ⟨h1, ⟨A, m, h3, hnm⟩, h2⟩ := hv.inv1
        obtain ⟨hle, h4, h4z⟩ := (h2 _ _ _ _ hr0).2 rfl
        have fin : ∀ {x y : Nat}, Bnd (lo.map a.eval) x 0 → Bnd (hi.map a.eval) y n → x ≤ y → y ≤ n → K (.one (.part id ver (o + x) (y - x))) → ∃ r v', (∀ w2, (Instr.sliceAt t u (lo.map a.eval) (hi.map a.eval) none).run C.P w2 = .ok r w2) ∧ VR C.T w c S nx v' r ∧ K v' := by
          intro x y b1 b2 g1 g2 hk
          obtain ⟨r, g3, g4⟩ := part_cut (c := c) (ver := ver) (o := o) hT hu hr0 h1 hnm h3 hie hle (fun hp => by
            obtain ⟨b, cap, m', g5, g6⟩ := h4 ie hie hp
            refine ⟨b, cap, g5, ?_⟩
            rw [h3] at g6
            injection g6) (fun e => by
            obtain ⟨B, cap, g5, g6⟩ := h4z e
            rw [h3] at g6
            injection g6 with g7 _ g8
            exact ⟨B, cap, g5, g7, g8⟩) b1 b2 g1 g2
          exact ⟨r, _, g3, .one g4, hk⟩
        split at h
        · exact fin (boundOf_none hF hlo hl 0) (boundOf_none hF hhi hh _) (Nat.zero_le _) (Nat.le_refl _) (by simpa using h)
        · obtain ⟨g1, h⟩ := h
          exact fin (boundOf_some hF hlo hl g1.1 0) (boundOf_none hF hhi hh _) (by omega) (Nat.le_refl _) (by simpa using h)
        · obtain ⟨g1, h⟩ := h
          exact fin (boundOf_none hF hlo hl 0) (boundOf_some hF hhi hh g1.1 _) (by omega) (by omega) (by simpa using h)
        · obtain ⟨g1, h⟩ := h
          exact fin (boundOf_some hF hlo hl g1.1 0) (boundOf_some hF hhi hh (by omega) _) (by omega) (by omega) (by simpa using h)
      · exact h.elim
    · exact h.elim
  · exact h.elim
end Go.Proofs.Ytodhnbjncmihkaa.V
end

section
/- The symbolic machine V: new variables; stores. -/
set_option linter.unusedVariables false
set_option linter.unusedSimpArgs false
namespace Go.Proofs.Ytodhnbjncmihkaa.V
open Go
variable {C : Cfg} {w : World} {c : Cx} {S : Sto} {nx : Nat}

/-! ### stores that say the same -/
theorem Stays.same {S S' : Sto} (c : Cx) (nx : Nat) (h : ∀ id, geto S' id = geto S id) : Stays c S nx c S' :=
  .mk (fun id e k ver xs _ hr => ⟨k, ver, xs, by rw [← h]; exact hr, .inr ⟨rfl, rfl, rfl⟩⟩) (fun id t ls _ hr => ⟨ls, by rw [← h]; exact hr, rfl⟩)
theorem Sat.same {T : TypeId → Option TI} {S S' : Sto} (hs : Sat T w c S nx) (h : ∀ id, geto S' id = geto S id) : Sat T w c S' nx :=
  hs.of (Stays.same c nx h) (Nat.le_refl _) (Nat.le_refl _) (fun _ h => h) (fun _ _ => rfl) (fun id => .inr ⟨h id, rfl, rfl, fun _ _ => rfl⟩) (fun id hi => by rw [h]; exact hs.lt id hi) hs.disj hs.xz hs.zlt hs.xlt
theorem Stays.sameR {S S' S2 : Sto} {c c' : Cx} (h : Stays c S nx c' S') (h2 : ∀ id, geto S2 id = geto S' id) : Stays c S nx c' S2 :=
  .mk (fun id e k ver xs hi hr => h.at hi (by rw [← h2]; exact hr)) (fun id t ls hi hr => h.atB hi (by rw [← h2]; exact hr))

/-! ### new variables -/
theorem Value.cells_list {T : TypeId → Option TI} {v : V} {u : Value} (hv : VR T w c S nx v u) {ls : List L} (h : lsOf v = some ls) : LRs T w c S nx ls u.cells.toList := by
  cases hv with
  | @one l u h' =>
    cases h
    have hc := h'.cell
    have : u.cells = #[u] := by cases u <;> first | rfl | (simp [Value.oneCell'] at hc)
    rw [this]
    refine ⟨rfl, fun j l' hj => ?_⟩
    cases j with
    | zero => simp at hj; subst hj; exact ⟨u, rfl, h'⟩
    | succ j => simp at hj
  | agg h' => cases h; exact h'
  | tup hl h' => cases h
  | junk => cases h
theorem newBox {T : TypeId → Option TI} (hs : Sat T w c S nx) {t : TypeId} {ls : List L} {us : Array Value} (hl : LRs T w c S nx ls us.toList) :
    ∃ c', Step T w c S nx (w.alloc (.cells us t)) c' ((nx, .box t ls) :: S) (nx + 1) ∧ LR T (w.alloc (.cells us t)) c' ((nx, .box t ls) :: S) (nx + 1) (.ptr nx 0 0 0) (.pointer (some ⟨w.heap.size, 0, none⟩)) := by
  let c' := c.new nx (.pointer (some ⟨w.heap.size, 0, none⟩)) fun k => k = w.heap.size ∨ False
  have hst : Stays c S nx c' ((nx, .box t ls) :: S) := by
    refine .mk (fun id e k ver xs hi hr => ?_) (fun id t ls hi hr => ?_)
    · rw [geto_cons, if_neg (by omega)] at hr
      exact ⟨k, ver, xs, hr, .inr ⟨rfl, rfl, up_other _ _ _ (by omega)⟩⟩
    · rw [geto_cons, if_neg (by omega)] at hr
      exact ⟨ls, hr, up_other _ _ _ (by omega)⟩
  have hos : OS T (w.alloc (.cells us t)) c' ((nx, .box t ls) :: S) (nx + 1) nx (.box t ls) := by
    refine ⟨w.heap.size, us, up_same _ _ _, heap_alloc_new _ _, fun k => by simp [c', Cx.new, up], ?_⟩
    exact hl.step hst (by omega) (fun b hb => heap_alloc_old _ _ _ (hs.zlt b hb)) (fun _ h => h)
  obtain ⟨h1, h2⟩ := Step.alloc hs (.box t ls) (.cells us t) (.pointer (some ⟨w.heap.size, 0, none⟩)) (fun _ => False) (fun _ h => h.elim) hos
  refine ⟨c', ⟨h1, Ext.alloc_of (Ext.refl w c) hs _ _ _ (fun _ h => h.elim), h2, by omega⟩, by omega, ⟨_, rfl⟩, fun e k ver xs hr => ?_, fun t' ls' hr => ?_⟩
  · rw [geto_cons, if_pos rfl] at hr; cases hr
  · exact ⟨w.heap.size, up_same _ _ _, rfl⟩
theorem zLs {T : TypeId → Option TI} : ∀ {ks : List LK} {us : List Value}, zOks ks us = true → noOth ks = true → LRs T w c S nx (zeroLs ks) us
  | [], [], _, _ => ⟨rfl, fun j l h => by simp [zeroLs] at h⟩
  | [], _ :: _, h, _ => by simp [zOks] at h
  | _ :: _, [], h, _ => by simp [zOks] at h
  | κ :: ks, u :: us, h, hn => by
    simp only [zOks, Bool.and_eq_true] at h
    have hn' : noOth ks = true := by cases κ <;> simp_all [noOth]
    obtain ⟨h1, h2⟩ := zLs h.2 hn'
    refine ⟨by simp [zeroLs, h1], fun j l hj => ?_⟩
    cases j with
    | succ j => exact h2 j l (by simpa [zeroLs] using hj)
    | zero =>
      simp only [zeroLs, List.getElem?_cons_zero, Option.some.injEq] at hj
      subst hj
      refine ⟨u, rfl, ?_⟩
      have hz := h.1
      unfold zOk1 at hz
      split at hz
      · rename_i k k' n
        simp only [Bool.and_eq_true, beq_iff_eq] at hz
        cases kEq_t hz.1
        obtain ⟨_, rfl⟩ := hz
        exact LR.int (by cases k <;> simp [rng])
      · simp at hz; subst hz; rfl
      · rename_i s
        have hz : s.size = 0 := by simpa using hz
        have : s = ⟨#[]⟩ := by
          obtain ⟨a⟩ := s
          have : a.size = 0 := hz
          rw [Array.eq_empty_of_size_eq_zero this]
        subst this
        exact LR.strv (by rw [hz]; simp [maxI])
      · exact ⟨rfl, rfl, (fun _ _ e => nomatch e), (fun _ e => nomatch e)⟩
      · simp [noOth] at hn
      · simp at hz

/-! ### cells exchanged -/
def put (arr : Array Value) (o : Nat) (us : List Value) : Array Value := (arr.toList.take o ++ us ++ arr.toList.drop (o + us.length)).toArray
theorem put_size {arr : Array Value} {o : Nat} {us : List Value} (h : o + us.length ≤ arr.size) : (put arr o us).size = arr.size := by
  simp [put]; omega
theorem put_get {arr : Array Value} {o : Nat} {us : List Value} (h : o + us.length ≤ arr.size) (k : Nat) : (put arr o us)[k]? = if o ≤ k ∧ k < o + us.length then us[k - o]? else arr[k]? := by
  unfold put
  simp only [List.getElem?_toArray, List.getElem?_append, List.length_append, List.length_take, Array.length_toList]
  have hm : min o arr.size = o := by omega
  rw [hm]
  by_cases h1 : k < o
  · rw [if_pos (by omega), if_pos h1, if_neg (by omega), List.getElem?_take_of_lt h1]; simp
  · by_cases h2 : k < o + us.length
    · rw [if_pos h2, if_neg h1, if_pos (by omega)]
    · rw [if_neg h2, if_neg (by omega), List.getElem?_drop, show o + us.length + (k - (o + us.length)) = k by omega]; simp
theorem splice_length {α : Type} : ∀ (l : List α) (j : Nat) (vs : List α), (splice l j vs).length = l.length
  | [], _, _ => by simp [splice]
  | x :: l, 0, v :: vs => by simp [splice, splice_length l 0 vs]
  | x :: l, 0, [] => by simp [splice]
  | x :: l, j + 1, vs => by simp [splice, splice_length l j vs]
theorem splice_get {α : Type} : ∀ (l : List α) (j : Nat) (vs : List α) (k : Nat), (splice l j vs)[k]? = if j ≤ k ∧ k < j + vs.length ∧ k < l.length then vs[k - j]? else l[k]?
  | [], _, _, _ => by simp [splice]
  | x :: l, 0, v :: vs, 0 => by simp [splice]
  | x :: l, 0, v :: vs, k + 1 => by
    simp only [splice, List.getElem?_cons_succ, splice_get l 0 vs k, List.length_cons]
    by_cases h : k < vs.length ∧ k < l.length
    · rw [if_pos (by omega), if_pos (by omega)]; simp
    · rw [if_neg (by omega), if_neg (by omega)]
  | x :: l, 0, [], k => by simp [splice]
  | x :: l, j + 1, vs, 0 => by simp [splice]
  | x :: l, j + 1, vs, k + 1 => by
    simp only [splice, List.getElem?_cons_succ, splice_get l j vs k, List.length_cons]
    by_cases h : j ≤ k ∧ k < j + vs.length ∧ k < l.length
    · rw [if_pos (by omega), if_pos (by omega), show k + 1 - (j + 1) = k - j by omega]
    · rw [if_neg (by omega), if_neg (by omega)]
theorem idx_eq {n p p' j j' : Nat} (h : j < n) (h' : j' < n) (e : p * n + j = p' * n + j') : p = p' ∧ j = j' := by
  have hn : 0 < n := by omega
  have h1 : (p * n + j) / n = p := by rw [Nat.mul_comm, Nat.mul_add_div hn, Nat.div_eq_of_lt h]; omega
  have h2 : (p' * n + j') / n = p' := by rw [Nat.mul_comm, Nat.mul_add_div hn, Nat.div_eq_of_lt h']; omega
  have : p = p' := by rw [← h1, ← h2, e]
  subst this
  exact ⟨rfl, by omega⟩
theorem run_storeAt {P : Program} {t : TypeId} {i : TI} {inf : TypeInfo} {z : Value} (ht : TyF P t i inf z) {b o : Nat} {arr : Array Value} {ty : TypeId} (hb : w.heap[b]? = some (.cells arr ty (0, 0))) {u : Value} (hl : u.cells.size = i.ks.length) (hle : o + i.ks.length ≤ arr.size) (h1 : ∀ v ∈ u.cells.toList, v.oneCell' = true) :
    (Instr.storeAt t (.pointer (some ⟨b, o, none⟩)) u).run P w = .ok () (w.setRow b (put arr o u.cells.toList)) := by
  have := run_storeCells_at P b o ty u.cells.toList 0 arr w hb (by simp; omega) h1
  simp only [Nat.add_zero] at this
  simp [Instr.storeAt, Instr.sureAddr, storeVar, ht.cells, hl, this, put]
theorem LRs.cells1 {T : TypeId → Option TI} {ls : List L} {us : List Value} (h : LRs T w c S nx ls us) : ∀ v ∈ us, v.oneCell' = true := by
  intro v hv
  obtain ⟨j, hj⟩ := List.mem_iff_getElem?.1 hv
  have hlt := (List.getElem?_eq_some_iff.1 hj).1
  rw [h.1] at hlt
  obtain ⟨u, h1, h2⟩ := h.2 j _ (List.getElem?_eq_getElem hlt)
  rw [hj] at h1; cases h1
  exact h2.cell
theorem mem_not {x : Nat} : ∀ {l : List Nat}, mem x l = false → x ∉ l
  | [], _ => by simp
  | y :: r, h => by
    simp only [mem] at h
    split at h
    · simp at h
    · rename_i hb
      simp only [List.mem_cons, not_or]
      exact ⟨fun e => by subst e; simp at hb, mem_not h⟩
/-- A row is written. -/
theorem Ext.write {w : World} {c : Cx} {b id : Nat} (arr : Array Value) (hb : c.X id b) {c' : Cx} (hz : ∀ b, c.Z b → c'.Z b) (hz' : ∀ b, c'.Z b → c.Z b ∨ ∃ id, c.X id b) (hx : ∀ i k, c'.X i k → ∃ i', c.X i' k) : Ext w c (w.setRow b arr) c' :=
  ⟨rfl, rfl, rfl, by simp, fun k hk h => setRow_other _ _ _ _ (fun e => h id (e ▸ hb)), hz, fun k _ h => hz' k h, fun i k _ h => hx i k h⟩
end Go.Proofs.Ytodhnbjncmihkaa.V
end

section
/- The symbolic machine V: an element of a row is written. -/
set_option linter.unusedVariables false
set_option linter.unusedSimpArgs false
namespace Go.Proofs.Ytodhnbjncmihkaa.V
open Go
variable {T : TypeId → Option TI} {w : World} {c : Cx} {S : Sto} {nx : Nat}

theorem sub_len {α : Type} {l : List α} {j n : Nat} {m : List α} (h : sub l j n = m) (hm : m.length = n) (h0 : 0 < n) : j + n ≤ l.length := by
  have := congrArg List.length h
  rw [sub_eq] at this
  simp at this
  omega
theorem set_get {xs : List (List D)} {p : Nat} (hp : p < xs.length) {j : Nat} {ds : List D} {p' : Nat} {x : List D} (h : (xs.set p (splice (xs.getD p []) j ds))[p']? = some x) :
    ∃ x0, xs[p']? = some x0 ∧ x.length = x0.length ∧ (p' ≠ p → x = x0) ∧ (p' = p → ∀ k, x[k]? = if j ≤ k ∧ k < j + ds.length ∧ k < x0.length then ds[k - j]? else x0[k]?) := by
  by_cases e : p' = p
  · subst e
    rw [List.getElem?_set_self (by simpa using hp)] at h
    cases h
    have hx : xs[p']? = some (xs[p']'hp) := List.getElem?_eq_getElem hp
    have hg : xs.getD p' [] = xs[p']'hp := by simp [List.getD, hx]
    rw [hg]
    exact ⟨_, hx, splice_length _ _ _, fun h => absurd rfl h, fun _ k => splice_get _ _ _ _⟩
  · rw [List.getElem?_set_ne (Ne.symm e)] at h
    exact ⟨x, h, rfl, fun _ => rfl, fun h => absurd h e⟩
theorem Ow.set {X : Nat → Prop} {e : TypeId} {ie : TI} {xs : List (List D)} {b cap p j : Nat} (hT : T e = some ie) (h : Ow T w X (.sl e) (.sl xs) (.slice (some ⟨b, 0, none⟩) xs.length cap)) (hp : p < xs.length)
    {ks : List LK} {ds : List D} {us : List Value} (hks : ∀ (q : Nat) (κ : LK), q < ks.length → ie.ks[j + q]? = some κ → ks[q]? = some κ) (hj : j + ks.length ≤ ie.ks.length) (hd : ds.length = ks.length) (hu : us.length = ks.length) {Y1 : Nat → Nat → Prop}
    (own : ∀ (q : Nat) (κ : LK) (d : D) (u : Value), ks[q]? = some κ → ds[q]? = some d → us[q]? = some u → Ow T w (Y1 q) κ d u) (disj : ∀ q q' k, Y1 q k → Y1 q' k → q = q') (fresh : ∀ q k, Y1 q k → ¬ X k) :
    ∃ (arr : Array Value) (X' : Nat → Prop), w.heap[b]? = some (.cells arr e (0, 0)) ∧ p * ie.ks.length + j + us.length ≤ arr.size ∧ X b ∧ (∀ k, X' k → X k ∨ ∃ q, Y1 q k) ∧
      ∀ w' : World, w'.heap[b]? = some (.cells (put arr (p * ie.ks.length + j) us) e (0, 0)) → (∀ k, k ≠ b → w'.heap[k]? = w.heap[k]?) →
        Ow T w' X' (.sl e) (.sl (xs.set p (splice (xs.getD p []) j ds))) (.slice (some ⟨b, 0, none⟩) xs.length cap) := by
  generalize hv : (Value.slice (some ⟨b, 0, none⟩) xs.length cap) = v at h
  cases h with
  | nil hX => simp at hp
  | @sl _ _ i' _ b' arr cap' u Y hT' hm hb hcap hle hx hc hr' hd' hn hX =>
    obtain rfl : ie = i' := by rw [hT] at hT'; exact Option.some.inj hT'
    injection hv with h1 _ h3
    injection h1 with h1
    injection h1 with h1
    subst h1
    subst h3
    have hXb : X b := (hX b).2 (.inl rfl)
    have hsz : p * ie.ks.length + j + us.length ≤ arr.size := by
      rw [hcap, hu]
      have h1 : (p + 1) * ie.ks.length ≤ cap * ie.ks.length := Nat.mul_le_mul_right _ (by omega)
      rw [Nat.add_mul] at h1
      omega
    let ch : Nat → Nat → Prop := fun p' j' => p' = p ∧ j ≤ j' ∧ j' < j + ks.length
    have hYX : ∀ p' j' k, p' < xs.length → j' < ie.ks.length → Y p' j' k → X k := fun p' j' k h1 h2 h3 => (hX k).2 (.inr ⟨p', j', h1, h2, h3⟩)
    let Y' : Nat → Nat → Nat → Prop := fun p' j' k => (ch p' j' ∧ Y1 (j' - j) k) ∨ (¬ ch p' j' ∧ p' < xs.length ∧ j' < ie.ks.length ∧ Y p' j' k)
    let u' : Nat → Nat → Value := fun p' j' => open Classical in if ch p' j' then us.getD (j' - j) undef else u p' j'
    refine ⟨arr, fun k => k = b ∨ ∃ p' j', p' < xs.length ∧ j' < ie.ks.length ∧ Y' p' j' k, hb, hsz, hXb, fun k hk => ?_, fun w' hb' hw' => ?_⟩
    · rcases hk with rfl | ⟨p', j', h1, h2, ⟨_, h3⟩ | ⟨_, h3, h4, h5⟩⟩
      · exact .inl hXb
      · exact .inr ⟨_, h3⟩
      · exact .inl (hYX _ _ _ h3 h4 h5)
    · have hlen : (xs.set p (splice (xs.getD p []) j ds)).length = xs.length := by simp
      have key : Ow T w' (fun k => k = b ∨ ∃ p' j', p' < xs.length ∧ j' < ie.ks.length ∧ Y' p' j' k) (.sl e) (.sl (xs.set p (splice (xs.getD p []) j ds))) (.slice (some ⟨b, 0, none⟩) (xs.set p (splice (xs.getD p []) j ds)).length cap) := by
        refine .sl u' Y' hT (by rw [hlen]; exact hm) hb' (by rw [put_size hsz]; exact hcap) (by rw [hlen]; exact hle) (fun p' x hx' => ?_) (fun p' j' h1 h2 => ?_) (fun p' x j' κ d h1 h2 h3 => ?_) (fun p' j' p'' j'' k h1 h2 => ?_) (fun p' j' hk => ?_) (fun k => by rw [hlen])
        · obtain ⟨x0, h1, h2, _⟩ := set_get hp hx'
          rw [h2]; exact hx _ _ h1
        · rw [hlen] at h1
          rw [put_get hsz]
          by_cases hch : ch p' j'
          · obtain ⟨rfl, h3, h4⟩ := hch
            rw [if_pos (by omega)]
            simp only [u']
            rw [if_pos (show ch p' j' from ⟨rfl, h3, h4⟩), show p' * ie.ks.length + j' - (p' * ie.ks.length + j) = j' - j by omega]
            rw [List.getElem?_eq_getElem (by omega)]
            simp [List.getD, List.getElem?_eq_getElem (show j' - j < us.length by omega)]
          · rw [if_neg, hc p' j' h1 h2]
            · simp only [u']; rw [if_neg hch]
            · intro hh
              obtain ⟨g1, g2⟩ := idx_eq (p := p') (p' := p) (j := j') (j' := p' * ie.ks.length + j' - p * ie.ks.length) h2 (by omega) (by omega)
              exact hch ⟨g1, by omega, by omega⟩
        · obtain ⟨x0, g1, g2, g3, g4⟩ := set_get hp h1
          by_cases hch : ch p' j'
          · obtain ⟨e1, e2, e3⟩ := hch
            have hj0 := (List.getElem?_eq_some_iff.1 h3).1
            rw [g4 e1, if_pos ⟨e2, by omega, by omega⟩] at h3
            have hus : us[j' - j]? = some (us.getD (j' - j) undef) := by
              simp [List.getD, List.getElem?_eq_getElem (show j' - j < us.length by omega)]
            have hY : Y' p' j' = Y1 (j' - j) := by
              funext k
              simp only [Y', ch]
              exact propext ⟨fun h => h.elim (fun h => h.2) fun h => absurd ⟨e1, e2, e3⟩ h.1, fun h => .inl ⟨⟨e1, e2, e3⟩, h⟩⟩
            have hu' : u' p' j' = us.getD (j' - j) undef := by simp only [u']; rw [if_pos ⟨e1, e2, e3⟩]
            rw [hY, hu']
            refine (own _ _ _ _ (hks _ _ (by omega) (by rw [show j + (j' - j) = j' by omega]; exact h2)) h3 hus).mono fun k hk => hw' k fun e => ?_
            exact fresh _ _ hk (e ▸ hXb)
          · have hxj : x0[j']? = some d := by
              by_cases e1 : p' = p
              · rw [g4 e1, if_neg (fun h => hch ⟨e1, h.1, by omega⟩)] at h3
                exact h3
              · rw [g3 e1] at h3; exact h3
            have hp' := (List.getElem?_eq_some_iff.1 g1).1
            have hj' := (List.getElem?_eq_some_iff.1 h2).1
            have hY : Y' p' j' = Y p' j' := by
              funext k
              simp only [Y']
              exact propext ⟨fun h => h.elim (fun h => absurd h.1 hch) fun h => h.2.2.2, fun h => .inr ⟨hch, hp', hj', h⟩⟩
            have hu' : u' p' j' = u p' j' := by simp only [u']; rw [if_neg hch]
            rw [hY, hu']
            exact (hr' _ _ _ _ _ g1 h2 hxj).mono fun k hk => hw' k fun e => hn p' j' (e ▸ hk)
        · rcases h1 with ⟨⟨rfl, e2, e3⟩, h1⟩ | ⟨_, e2, e3, h1⟩ <;> rcases h2 with ⟨⟨rfl, f2, f3⟩, h2⟩ | ⟨_, f2, f3, h2⟩
          · have := disj _ _ _ h1 h2; exact ⟨rfl, by omega⟩
          · exact absurd (hYX _ _ _ f2 f3 h2) (fresh _ _ h1)
          · exact absurd (hYX _ _ _ e2 e3 h1) (fresh _ _ h2)
          · exact hd' _ _ _ _ _ h1 h2
        · rcases hk with ⟨_, hk⟩ | ⟨_, _, _, hk⟩
          · exact fresh _ _ hk hXb
          · exact hn _ _ hk
      rw [hlen] at key
      exact key
theorem Sh.set {Z X : Nat → Prop} {e : TypeId} {ie : TI} {xs : List (List D)} {b cap p j : Nat} (hT : T e = some ie) (h : Sh T w Z X e xs (.slice (some ⟨b, 0, none⟩) xs.length cap)) (hp : p < xs.length) (hXZ : ∀ k, X k → ¬ Z k)
    {ks : List LK} {ds : List D} {us : List Value} (hks : ∀ (q : Nat) (κ : LK), q < ks.length → ie.ks[j + q]? = some κ → ks[q]? = some κ) (hj : j + ks.length ≤ ie.ks.length) (hd : ds.length = ks.length) (hu : us.length = ks.length)
    (rd : ∀ (q : Nat) (κ : LK) (d : D) (u : Value), ks[q]? = some κ → ds[q]? = some d → us[q]? = some u → Rd T w Z κ d u) :
    ∃ (arr : Array Value), w.heap[b]? = some (.cells arr e (0, 0)) ∧ p * ie.ks.length + j + us.length ≤ arr.size ∧ X b ∧
      ∀ w' : World, w'.heap[b]? = some (.cells (put arr (p * ie.ks.length + j) us) e (0, 0)) → (∀ k, k ≠ b → w'.heap[k]? = w.heap[k]?) →
        Sh T w' Z X e (xs.set p (splice (xs.getD p []) j ds)) (.slice (some ⟨b, 0, none⟩) xs.length cap) := by
  generalize hv : (Value.slice (some ⟨b, 0, none⟩) xs.length cap) = v at h
  cases h with
  | nil hX => simp at hp
  | @sl i' _ b' arr cap' u hT' hm hb hcap hle hx hc hr' hX =>
    obtain rfl : ie = i' := by rw [hT] at hT'; exact Option.some.inj hT'
    injection hv with h1 _ h3
    injection h1 with h1
    injection h1 with h1
    subst h1
    subst h3
    have hXb : X b := (hX b).2 rfl
    have hsz : p * ie.ks.length + j + us.length ≤ arr.size := by
      rw [hcap, hu]
      have h1 : (p + 1) * ie.ks.length ≤ cap * ie.ks.length := Nat.mul_le_mul_right _ (by omega)
      rw [Nat.add_mul] at h1
      omega
    let ch : Nat → Nat → Prop := fun p' j' => p' = p ∧ j ≤ j' ∧ j' < j + ks.length
    let u' : Nat → Nat → Value := fun p' j' => open Classical in if ch p' j' then us.getD (j' - j) undef else u p' j'
    refine ⟨arr, hb, hsz, hXb, fun w' hb' hw' => ?_⟩
    have hlen : (xs.set p (splice (xs.getD p []) j ds)).length = xs.length := by simp
    have hzw : ∀ k, Z k → w'.heap[k]? = w.heap[k]? := fun k hk => hw' k fun e => hXZ b hXb (e ▸ hk)
    have key : Sh T w' Z X e (xs.set p (splice (xs.getD p []) j ds)) (.slice (some ⟨b, 0, none⟩) (xs.set p (splice (xs.getD p []) j ds)).length cap) := by
      refine .sl u' hT (by rw [hlen]; exact hm) hb' (by rw [put_size hsz]; exact hcap) (by rw [hlen]; exact hle) (fun p' x hx' => ?_) (fun p' j' h1 h2 => ?_) (fun p' x j' κ d h1 h2 h3 => ?_) hX
      · obtain ⟨x0, h1, h2, _⟩ := set_get hp hx'
        rw [h2]; exact hx _ _ h1
      · rw [hlen] at h1
        rw [put_get hsz]
        by_cases hch : ch p' j'
        · obtain ⟨rfl, h3, h4⟩ := hch
          rw [if_pos (by omega)]
          simp only [u']
          rw [if_pos (show ch p' j' from ⟨rfl, h3, h4⟩), show p' * ie.ks.length + j' - (p' * ie.ks.length + j) = j' - j by omega]
          rw [List.getElem?_eq_getElem (by omega)]
          simp [List.getD, List.getElem?_eq_getElem (show j' - j < us.length by omega)]
        · rw [if_neg, hc p' j' h1 h2]
          · simp only [u']; rw [if_neg hch]
          · intro hh
            obtain ⟨g1, g2⟩ := idx_eq (p := p') (p' := p) (j := j') (j' := p' * ie.ks.length + j' - p * ie.ks.length) h2 (by omega) (by omega)
            exact hch ⟨g1, by omega, by omega⟩
      · obtain ⟨x0, g1, g2, g3, g4⟩ := set_get hp h1
        by_cases hch : ch p' j'
        · obtain ⟨e1, e2, e3⟩ := hch
          have hj0 := (List.getElem?_eq_some_iff.1 h3).1
          rw [g4 e1, if_pos ⟨e2, by omega, by omega⟩] at h3
          have hus : us[j' - j]? = some (us.getD (j' - j) undef) := by
            simp [List.getD, List.getElem?_eq_getElem (show j' - j < us.length by omega)]
          have hu' : u' p' j' = us.getD (j' - j) undef := by simp only [u']; rw [if_pos ⟨e1, e2, e3⟩]
          rw [hu']
          exact (rd _ _ _ _ (hks _ _ (by omega) (by rw [show j + (j' - j) = j' by omega]; exact h2)) h3 hus).mono hzw fun _ h => h
        · have hxj : x0[j']? = some d := by
            by_cases e1 : p' = p
            · rw [g4 e1, if_neg (fun h => hch ⟨e1, h.1, by omega⟩)] at h3
              exact h3
            · rw [g3 e1] at h3; exact h3
          have hu' : u' p' j' = u p' j' := by simp only [u']; rw [if_neg hch]
          rw [hu']
          exact (hr' _ _ _ _ _ g1 h2 hxj).mono hzw fun _ h => h
    rw [hlen] at key
    exact key
end Go.Proofs.Ytodhnbjncmihkaa.V
end

section
/- The symbolic machine V: stores. -/
set_option linter.unusedVariables false
set_option linter.unusedSimpArgs false
namespace Go.Proofs.Ytodhnbjncmihkaa.V
open Go
variable {T : TypeId → Option TI} {w : World} {c : Cx} {S : Sto} {nx : Nat}

theorem LRs.splice {ls vs : List L} {arr : Array Value} {us : List Value} {j : Nat} (h : LRs T w c S nx ls arr.toList) (h' : LRs T w c S nx vs us) (hle : j + vs.length ≤ ls.length) : LRs T w c S nx (V.splice ls j vs) (put arr j us).toList := by
  have hl := h.1
  have hl' := h'.1
  simp at hl
  have hsz : j + us.length ≤ arr.size := by omega
  refine ⟨by rw [splice_length, ← Array.size_eq_length_toList, put_size hsz]; exact hl, fun k l hk => ?_⟩
  rw [splice_get] at hk
  have hg := put_get hsz k
  rw [Array.getElem?_toList, hg]
  by_cases hc : j ≤ k ∧ k < j + vs.length
  · rw [if_pos ⟨hc.1, hc.2, by omega⟩] at hk
    rw [if_pos ⟨hc.1, by omega⟩]
    exact h'.2 _ _ hk
  · rw [if_neg (fun e => hc ⟨e.1, e.2.1⟩)] at hk
    rw [if_neg (fun e => hc ⟨e.1, by omega⟩)]
    have := h.2 _ _ hk
    rwa [Array.getElem?_toList] at this
theorem splice_all : ∀ (x ds : List D), ds.length = x.length → splice x 0 ds = ds
  | [], [], _ => rfl
  | [], _ :: _, h => by simp at h
  | _ :: _, [], h => by simp at h
  | x :: xs, d :: ds, h => by simp [splice, splice_all xs ds (by simpa using h)]

theorem box_store {P : Program} {t : TypeId} {i : TI} {inf : TypeInfo} {z : Value} (ht : TyF P t i inf z) (hs : Sat T w c S nx) {id ver p j bt : Nat} {ls vs : List L} (ho : geto S id = .box bt ls) {u ux : Value} (hv : LR T w c S nx (.ptr id ver p j) u) (hx : LRs T w c S nx vs ux.cells.toList)
    (hn : vs.length = i.ks.length) (hle : j + vs.length ≤ ls.length) :
    ∃ w', (Instr.storeAt t u ux).run P w = .ok () w' ∧ Step T w c S nx w' c ((id, .box bt (splice ls j vs)) :: S) nx := by
  obtain ⟨hid, _, _, h3⟩ := hv
  obtain ⟨b, h4, rfl⟩ := h3 _ _ ho
  have h0 := hs.os id
  rw [ho] at h0
  obtain ⟨b', arr, h6, h7, h8, h9⟩ := h0
  rw [h4] at h6
  cases h6
  have hl := h9.1
  have hl' := hx.1
  simp at hl hl'
  refine ⟨_, run_storeAt ht h7 (by omega) (by omega) hx.cells1, ?_⟩
  have hst : Stays c S nx c ((id, .box bt (splice ls j vs)) :: S) := by
    refine .mk (fun i e k ver xs hi hr => ?_) (fun i t ls' hi hr => ?_)
    · rw [geto_cons] at hr; split at hr
      · cases hr
      · exact ⟨k, ver, xs, hr, .inr ⟨rfl, rfl, rfl⟩⟩
    · rw [geto_cons] at hr; split at hr
      · rename_i e; subst e; cases hr; exact ⟨_, ho, rfl⟩
      · exact ⟨ls', hr, rfl⟩
  have hXb : c.X id b := (h8 b).2 rfl
  have hoth : ∀ k, k ≠ b → (w.setRow b (put arr j ux.cells.toList)).heap[k]? = w.heap[k]? := fun k hk => setRow_other _ _ _ _ hk
  have hzw : ∀ k, c.Z k → (w.setRow b (put arr j ux.cells.toList)).heap[k]? = w.heap[k]? := fun k hk => hoth k fun e => hs.xz id b hXb (e ▸ hk)
  refine ⟨hs.turn hid _ (by simp) (fun k _ hk => hoth k fun e => hk (e ▸ hXb)) (fun _ _ => rfl) (fun _ _ => rfl) (fun k hk => ⟨by simpa using hs.xlt id k hk, hs.xz id k hk, fun i hi h => hi (hs.disj i id k h hk)⟩) (fun _ h => h) (fun _ h => .inl h) hst ?_, Ext.write _ hXb (fun _ h => h) (fun _ h => .inl h) (fun i k h => ⟨i, h⟩), hst, Nat.le_refl _⟩
  exact ⟨b, _, h4, setRow_heap _ _ _ _ _ _ h7, h8, (h9.splice hx hle).step hst (Nat.le_refl _) hzw (fun _ h => h)⟩

theorem sh_store {P : Program} {t : TypeId} {i : TI} {inf : TypeInfo} {z : Value} (ht : TyF P t i inf z) {c2 : Cx} {S2 : Sto} {Lo : Nat → Prop} (hg : Gs T w c S nx c2 S2 Lo) {id e ver : Nat} {xs : List (List D)} (ho : geto S2 id = .row e .sh ver xs) {ie : TI} (hie : T e = some ie)
    {b cap p j : Nat} (hcur : c2.cur id = .slice (some ⟨b, 0, none⟩) xs.length cap) (hp : p < xs.length) (hks : ∀ (q : Nat) (κ : LK), q < i.ks.length → ie.ks[j + q]? = some κ → i.ks[q]? = some κ) (hj : j + i.ks.length ≤ ie.ks.length)
    {ds : List D} {ux : Value} (hd : ds.length = i.ks.length) (hu : ux.cells.toList.length = i.ks.length) (rd : ∀ (q : Nat) (κ : LK) (d : D) (u : Value), i.ks[q]? = some κ → ds[q]? = some d → ux.cells.toList[q]? = some u → Rd T w c2.Z κ d u) (hone : ∀ v ∈ ux.cells.toList, v.oneCell' = true) :
    ∃ w', (Instr.storeAt t (.pointer (some ⟨b, p * ie.ks.length + j, none⟩)) ux).run P w = .ok () w' ∧ Step T w c S nx w' c2 ((id, .row e .sh ver (xs.set p (splice (xs.getD p []) j ds))) :: S2) nx := by
  have hs := hg.sat
  have hid := row_lt hs ho (by simp)
  have h0 := hs.os id
  rw [ho] at h0
  simp only [OS] at h0
  rw [hcur] at h0
  obtain ⟨arr, h1, h2, hXb, h3⟩ := h0.set hie hp (fun k hk => hs.xz id k hk) hks hj hd hu rd
  have hu' : ux.cells.size = i.ks.length := by simpa using hu
  refine ⟨_, run_storeAt ht h1 hu' (by simp at h2; omega) hone, ?_⟩
  have hst : Stays c2 S2 nx c2 ((id, .row e .sh ver (xs.set p (splice (xs.getD p []) j ds))) :: S2) := by
    refine .mk (fun i e' k ver' xs' hi hr => ?_) (fun i t ls' hi hr => ?_)
    · rw [geto_cons] at hr; split at hr
      · rename_i e; subst e; cases hr; exact ⟨_, _, _, ho, .inr ⟨rfl, by simp, rfl⟩⟩
      · exact ⟨k, ver', xs', hr, .inr ⟨rfl, rfl, rfl⟩⟩
    · rw [geto_cons] at hr; split at hr
      · cases hr
      · exact ⟨ls', hr, rfl⟩
  have hoth : ∀ k, k ≠ b → (w.setRow b (put arr (p * ie.ks.length + j) ux.cells.toList)).heap[k]? = w.heap[k]? := fun k hk => setRow_other _ _ _ _ hk
  refine ⟨hs.turn hid _ (by simp) (fun k _ hk => hoth k fun e => hk (e ▸ hXb)) (fun _ _ => rfl) (fun _ _ => rfl) (fun k hk => ⟨by simpa using hs.xlt id k hk, hs.xz id k hk, fun i hi h => hi (hs.disj i id k h hk)⟩) (fun _ h => h) (fun _ h => .inl h) hst ?_, hg.ext.trans (Ext.write _ hXb (fun _ h => h) (fun _ h => .inl h) (fun i k h => ⟨i, h⟩)), hg.st.trans hst (Nat.le_refl _), Nat.le_refl _⟩
  simp only [OS]
  rw [hcur]
  have := h3 _ (setRow_heap _ _ _ _ _ _ h1) hoth
  simpa using this
theorem tree_store {P : Program} {t : TypeId} {i : TI} {inf : TypeInfo} {z : Value} (ht : TyF P t i inf z) {c1 : Cx} {S1 : Sto} {Y : Nat → Nat → Prop} (hg : Gs T w c S nx c1 S1 fun b => ∃ j, Y j b) {id e ver : Nat} {xs : List (List D)} (ho : geto S1 id = .row e .tree ver xs) {ie : TI} (hie : T e = some ie)
    {b cap p j : Nat} (hcur : c1.cur id = .slice (some ⟨b, 0, none⟩) xs.length cap) (hp : p < xs.length) (hks : ∀ (q : Nat) (κ : LK), q < i.ks.length → ie.ks[j + q]? = some κ → i.ks[q]? = some κ) (hj : j + i.ks.length ≤ ie.ks.length)
    {ds : List D} {ux : Value} (hd : ds.length = i.ks.length) (hu : ux.cells.toList.length = i.ks.length) (own : ∀ (q : Nat) (κ : LK) (d : D) (u : Value), i.ks[q]? = some κ → ds[q]? = some d → ux.cells.toList[q]? = some u → Ow T w (Y q) κ d u) (disj : ∀ q q' k, Y q k → Y q' k → q = q') (hone : ∀ v ∈ ux.cells.toList, v.oneCell' = true) :
    ∃ w' c', (Instr.storeAt t (.pointer (some ⟨b, p * ie.ks.length + j, none⟩)) ux).run P w = .ok () w' ∧ Step T w c S nx w' c' ((id, .row e .tree ver (xs.set p (splice (xs.getD p []) j ds))) :: S1) nx := by
  have hs := hg.sat
  have hid := row_lt hs ho (by simp)
  have h0 := hs.os id
  rw [ho] at h0
  simp only [OS] at h0
  rw [hcur] at h0
  obtain ⟨arr, X', h1, h2, hXb, hX', h3⟩ := h0.set hie hp hks hj hd hu own disj (fun q k hk => (hg.lo k ⟨q, hk⟩).2.1 id)
  have hu' : ux.cells.size = i.ks.length := by simpa using hu
  let c2 : Cx := ⟨c1.Z, c1.cur, up c1.X id X'⟩
  refine ⟨_, c2, run_storeAt ht h1 hu' (by simp at h2; omega) hone, ?_⟩
  have hst : Stays c1 S1 nx c2 ((id, .row e .tree ver (xs.set p (splice (xs.getD p []) j ds))) :: S1) := by
    refine .mk (fun i e' k ver' xs' hi hr => ?_) (fun i t ls' hi hr => ?_)
    · rw [geto_cons] at hr; split at hr
      · rename_i e; subst e; cases hr; exact ⟨_, _, _, ho, .inr ⟨rfl, by simp, rfl⟩⟩
      · exact ⟨k, ver', xs', hr, .inr ⟨rfl, rfl, rfl⟩⟩
    · rw [geto_cons] at hr; split at hr
      · cases hr
      · exact ⟨ls', hr, rfl⟩
  have hoth : ∀ k, k ≠ b → (w.setRow b (put arr (p * ie.ks.length + j) ux.cells.toList)).heap[k]? = w.heap[k]? := fun k hk => setRow_other _ _ _ _ hk
  have hX2 : ∀ k, c2.X id k → X' k := fun k hk => by simpa [c2, up] using hk
  refine ⟨hs.turn hid _ (by simp) (fun k _ hk => hoth k fun e => hk (e ▸ hXb)) (fun _ _ => rfl) (fun i hi => up_other _ _ _ hi) (fun k hk => ?_) (fun _ h => h) (fun _ h => .inl h) hst ?_, ⟨hg.ext.os, hg.ext.tape, hg.ext.output, by simp, fun k hk hx => ?_, hg.ext.zup, hg.ext.znew, fun i k hk hx => ?_⟩, hg.st.trans hst (Nat.le_refl _), Nat.le_refl _⟩
  · rcases hX' k (hX2 k hk) with h | ⟨q, h⟩
    · exact ⟨by simpa using hs.xlt id k h, hs.xz id k h, fun i hi h' => hi (hs.disj i id k h' h)⟩
    · obtain ⟨g1, g2, g3, _⟩ := hg.lo k ⟨q, h⟩
      exact ⟨by simpa using g1, g3, fun i _ => g2 i⟩
  · simp only [OS]
    have : c2.X id = X' := by simp [c2, up]
    rw [this]
    show Ow T _ X' _ _ (c1.cur id)
    rw [hcur]
    have := h3 _ (setRow_heap _ _ _ _ _ _ h1) hoth
    simpa using this
  · refine (hoth k fun e => ?_)
    subst e
    obtain ⟨i, hi⟩ := hg.ext.xnew id k hk hXb
    exact hx i hi
  · by_cases e : i = id
    · subst e
      rcases hX' k (hX2 k hx) with h | ⟨q, h⟩
      · exact hg.ext.xnew i k hk h
      · exact (hg.lo k ⟨q, h⟩).2.2.2
    · have : c2.X i = c1.X i := up_other _ _ _ e
      rw [this] at hx
      exact hg.ext.xnew i k hk hx
theorem Step.same {w' : World} {c' : Cx} {S' S2 : Sto} {nx' : Nat} (h : Step T w c S nx w' c' S' nx') (h2 : ∀ id, geto S2 id = geto S' id) : Step T w c S nx w' c' S2 nx' := ⟨h.sat.same h2, h.ext, h.st.sameR h2, h.nx⟩

theorem store_sound {C : Cfg} (hT : TOk C.P C.T) (hs : Sat C.T w c S nx) {t : TypeId} {v x : V} {u ux : Value} (hv : VR C.T w c S nx v u) (hx : VR C.T w c S nx x ux) {K : Sto → Prop} (h : storewp C t v x S K) :
    ∃ w' c' S', (Instr.storeAt t u ux).run C.P w = .ok () w' ∧ Step C.T w c S nx w' c' S' nx ∧ K S' := by
  unfold storewp at h
  split at h
  · rename_i i id ver p j vs hi hvs
    obtain ⟨inf, z, ht⟩ := hT.at hi
    have hxs := Value.cells_list hx hvs
    split at h
    · rename_i bt ls ho
      replace h := guardT_eq h
      obtain ⟨hb, h⟩ := h
      simp only [Bool.and_eq_true] at hb
      obtain ⟨w', h1, h2⟩ := box_store ht hs ho hv.inv1 hxs (beq_t hb.1) (Nat.le_of_ble_eq_true hb.2)
      exact ⟨w', c, _, h1, h2, h⟩
    · exact h.elim
    · rename_i e q ver' xs hfr ho
      split at h
      · rename_i ie hie
        replace h := guardT_eq h
        obtain ⟨hb, h⟩ := h
        simp only [Bool.and_eq_true] at hb
        cases beq_t hb.1.1.1
        have hks := lksEq_t hb.1.1.2
        have hvl := beq_t hb.1.2
        have hjle : j + i.ks.length ≤ ie.ks.length := Nat.le_of_ble_eq_true hb.2
        replace h := guardT_eq h
        obtain ⟨hm, h⟩ := h
        have hnm : id ∉ idsLs vs := mem_not (by simpa using hm)
        obtain ⟨ds, q', S1, c1, Y, hK, hg, hq, hlv, hf⟩ := toDs_sound h hs hxs
        obtain ⟨f1, f2, f3⟩ := hf id hnm
        obtain ⟨h1, _, h2, _⟩ := hv.inv1
        obtain ⟨hp, h4⟩ := (h2 _ _ _ _ ho).2 rfl
        obtain ⟨b, cap, hcur, rfl⟩ := h4 ie hie
        have h0 := hs.os id
        rw [ho] at h0
        obtain ⟨x0, uu, hx0, hx0l, _⟩ := row_view h0 hcur hie hp
        have hgd : xs.getD p [] = x0 := by simp [List.getD, hx0]
        have hK' : K ((id, .row e q' ver (xs.set p (splice (xs.getD p []) j ds))) :: S1) := by
          split at hK
          · rename_i hb
            have hn := beq_t hb
            have hj0 : splice (xs.getD p []) j ds = ds := by
              rw [hgd]
              have hds : ds.length = x0.length := by rw [hlv.len, hx0l]; omega
              obtain rfl : j = 0 := by omega
              exact splice_all _ _ hds
            rw [hj0]; exact hK
          · exact hK
        have hks' : ∀ (q : Nat) (κ : LK), q < i.ks.length → ie.ks[j + q]? = some κ → i.ks[q]? = some κ := by
          intro q κ hq hκ
          have h5 := List.getElem?_eq_getElem hq
          have h6 := getElem_sub hks rfl h5
          rw [h6] at hκ; cases hκ; exact h5
        have hul := hxs.1
        rcases hq with rfl | rfl
        · cases q' with
          | froz => exact (hfr rfl).elim
          | tree =>
            obtain ⟨w', c', h5, h6⟩ := tree_store ht (hg.less fun b hb => ⟨rfl, hb⟩) (f1.trans ho) hie (f3.trans hcur) hp hks' hjle hlv.len hlv.len' (fun q κ d u => hlv.own rfl q κ d u) (fun q q' k => hlv.disj q q' k) hxs.cells1
            exact ⟨w', c', _, h5, h6, hK'⟩
          | sh =>
            obtain ⟨w', h5, h6⟩ := sh_store ht hg (f1.trans ho) hie (f3.trans hcur) hp hks' hjle hlv.len hlv.len' (fun q κ d u => hlv.rd (by simp) q κ d u) hxs.cells1
            exact ⟨w', _, _, h5, h6, hK'⟩
        · cases q with
          | froz => exact (hfr rfl).elim
          | sh =>
            obtain ⟨w', h5, h6⟩ := sh_store ht hg (f1.trans ho) hie (f3.trans hcur) hp hks' hjle hlv.len hlv.len' (fun q κ d u => hlv.rd (by simp) q κ d u) hxs.cells1
            exact ⟨w', _, _, h5, h6, hK'⟩
          | tree =>
            obtain ⟨c2, hg2, hc2⟩ := Gs.share hg.sat (f1.trans ho)
            obtain ⟨w', h5, h6⟩ := sh_store ht (hg.trans hg2) (by rw [geto_cons, if_pos rfl]) hie (by rw [hc2]; exact f3.trans hcur) hp hks' hjle hlv.len hlv.len' (fun q κ d u a b c => (hlv.rd (by simp) q κ d u a b c).mono (fun _ _ => rfl) hg2.ext.zup) hxs.cells1
            refine ⟨w', _, _, h5, h6.same (fun i => ?_), hK'⟩
            rw [geto_cons, geto_cons, geto_cons]
            split <;> rfl
      · exact h.elim
    · exact h.elim
  · exact h.elim
end Go.Proofs.Ytodhnbjncmihkaa.V
end

section
/- The symbolic machine V: new rows. -/
set_option linter.unusedVariables false
set_option linter.unusedSimpArgs false
namespace Go.Proofs.Ytodhnbjncmihkaa.V
open Go
variable {T : TypeId → Option TI} {w : World} {c : Cx} {S : Sto} {nx : Nat}

/-- Elements' cells: a tree's, on blocks Y p j; or only read. -/
structure RowL (T : TypeId → Option TI) (w : World) (c : Cx) (q : RK) (Y : Nat → Nat → Nat → Prop) (ks : List LK) (xs : List (List D)) (us : List Value) : Prop where
  len : us.length = xs.length * ks.length
  hx : ∀ (p : Nat) (x : List D), xs[p]? = some x → x.length = ks.length
  own : q = .tree → ∀ (p : Nat) (x : List D) (j : Nat) (κ : LK) (d : D) (u : Value), xs[p]? = some x → ks[j]? = some κ → x[j]? = some d → us[p * ks.length + j]? = some u → Ow T w (Y p j) κ d u
  rd : q ≠ .tree → ∀ (p : Nat) (x : List D) (j : Nat) (κ : LK) (d : D) (u : Value), xs[p]? = some x → ks[j]? = some κ → x[j]? = some d → us[p * ks.length + j]? = some u → Rd T w c.Z κ d u
  disj : ∀ p j p' j' k, Y p j k → Y p' j' k → p = p' ∧ j = j'
  one : ∀ v ∈ us, v.oneCell' = true

theorem idx_lt {n m p j : Nat} (hp : p < m) (hj : j < n) : p * n + j < m * n := by
  have h1 : (p + 1) * n ≤ m * n := Nat.mul_le_mul_right _ hp
  rw [Nat.add_mul] at h1
  omega
theorem RowL.nil {q : RK} {ks : List LK} : RowL T w c q (fun _ _ _ => False) ks [] [] :=
  ⟨by simp, fun p x h => by simp at h, fun _ p x j κ d u h => by simp at h, fun _ p x j κ d u h => by simp at h, fun _ _ _ _ _ h => h.elim, fun v h => by simp at h⟩
theorem RowL.ofLv {q : RK} {Y : Nat → Nat → Prop} {ks : List LK} {ds : List D} {us : List Value} (h : Lv T w c q Y ks ds us) (h1 : ∀ v ∈ us, v.oneCell' = true) : RowL T w c q (fun p j k => p = 0 ∧ Y j k) ks [ds] us := by
  refine ⟨by simp [h.len'], fun p x hp => ?_, fun hq p x j κ d u hp h1 h2 h3 => ?_, fun hq p x j κ d u hp h1 h2 h3 => ?_, fun p j p' j' k h1 h2 => ⟨by omega, h.disj _ _ _ h1.2 h2.2⟩, h1⟩
  · cases p with
    | zero => simp at hp; subst hp; exact h.len
    | succ p => simp at hp
  · cases p with
    | zero =>
      simp at hp; subst hp
      have : (fun k => (0 : Nat) = 0 ∧ Y j k) = Y j := by funext k; simp
      rw [this]
      exact h.own hq j κ d u h1 h2 (by simpa using h3)
    | succ p => simp at hp
  · cases p with
    | zero => simp at hp; subst hp; exact h.rd hq j κ d u h1 h2 (by simpa using h3)
    | succ p => simp at hp
theorem RowL.mono {w' : World} {c' : Cx} {q : RK} {Y : Nat → Nat → Nat → Prop} {ks : List LK} {xs : List (List D)} {us : List Value} (h : RowL T w c q Y ks xs us) (hY : ∀ p j k, Y p j k → w'.heap[k]? = w.heap[k]?) (hw : ∀ b, c.Z b → w'.heap[b]? = w.heap[b]?) (hz : ∀ b, c.Z b → c'.Z b) : RowL T w' c' q Y ks xs us :=
  ⟨h.len, h.hx, fun hq p x j κ d u a1 a2 a3 a4 => (h.own hq p x j κ d u a1 a2 a3 a4).mono fun k hk => hY p j k hk, fun hq p x j κ d u a1 a2 a3 a4 => (h.rd hq p x j κ d u a1 a2 a3 a4).mono hw hz, h.disj, h.one⟩
theorem RowL.app {q : RK} {Y Y2 : Nat → Nat → Nat → Prop} {ks : List LK} {xs ys : List (List D)} {us vs : List Value} (h : RowL T w c q Y ks xs us) (h2 : RowL T w c q Y2 ks ys vs) (hd : ∀ p j p' j' k, Y p j k → ¬ Y2 p' j' k) :
    RowL T w c q (fun p j k => (p < xs.length ∧ Y p j k) ∨ (xs.length ≤ p ∧ Y2 (p - xs.length) j k)) ks (xs ++ ys) (us ++ vs) := by
  have key : ∀ {p j : Nat} {x : List D} {κ : LK} {u : Value}, (xs ++ ys)[p]? = some x → ks[j]? = some κ → (us ++ vs)[p * ks.length + j]? = some u →
      (p < xs.length ∧ xs[p]? = some x ∧ us[p * ks.length + j]? = some u) ∨ (xs.length ≤ p ∧ ys[p - xs.length]? = some x ∧ vs[(p - xs.length) * ks.length + j]? = some u) := by
    intro p j x κ u h1 h3 h4
    have hj := (List.getElem?_eq_some_iff.1 h3).1
    by_cases hp : p < xs.length
    · rw [List.getElem?_append_left hp] at h1
      rw [List.getElem?_append_left (by rw [h.len]; exact idx_lt hp hj)] at h4
      exact .inl ⟨hp, h1, h4⟩
    · have hp' : xs.length ≤ p := by omega
      rw [List.getElem?_append_right hp'] at h1
      have h5 : xs.length * ks.length ≤ p * ks.length := Nat.mul_le_mul_right _ hp'
      rw [List.getElem?_append_right (by rw [h.len]; omega), h.len] at h4
      refine .inr ⟨hp', h1, ?_⟩
      rw [Nat.sub_mul, ← h4]
      congr 1
      omega
  refine ⟨by simp [h.len, h2.len, Nat.add_mul], fun p x hp => ?_, fun hq p x j κ d u h1 h3 h4 h5 => ?_, fun hq p x j κ d u h1 h3 h4 h5 => ?_, fun p j p' j' k h3 h4 => ?_, fun v hv => ?_⟩
  · by_cases h0 : p < xs.length
    · rw [List.getElem?_append_left h0] at hp; exact h.hx _ _ hp
    · rw [List.getElem?_append_right (by omega)] at hp; exact h2.hx _ _ hp
  · rcases key h1 h3 h5 with ⟨a1, a2, a3⟩ | ⟨a1, a2, a3⟩
    · have : (fun k => (p < xs.length ∧ Y p j k) ∨ (xs.length ≤ p ∧ Y2 (p - xs.length) j k)) = Y p j := by
        funext k; exact propext ⟨fun h => h.elim (fun h => h.2) fun h => by omega, fun h => .inl ⟨a1, h⟩⟩
      rw [this]
      exact h.own hq _ _ _ _ _ _ a2 h3 h4 a3
    · have : (fun k => (p < xs.length ∧ Y p j k) ∨ (xs.length ≤ p ∧ Y2 (p - xs.length) j k)) = Y2 (p - xs.length) j := by
        funext k; exact propext ⟨fun h => h.elim (fun h => by omega) fun h => h.2, fun h => .inr ⟨a1, h⟩⟩
      rw [this]
      exact h2.own hq _ _ _ _ _ _ a2 h3 h4 a3
  · rcases key h1 h3 h5 with ⟨a1, a2, a3⟩ | ⟨a1, a2, a3⟩
    · exact h.rd hq _ _ _ _ _ _ a2 h3 h4 a3
    · exact h2.rd hq _ _ _ _ _ _ a2 h3 h4 a3
  · rcases h3 with ⟨a1, a2⟩ | ⟨a1, a2⟩ <;> rcases h4 with ⟨b1, b2⟩ | ⟨b1, b2⟩
    · exact h.disj _ _ _ _ _ a2 b2
    · exact absurd b2 (hd _ _ _ _ _ a2)
    · exact absurd a2 (hd _ _ _ _ _ b2)
    · obtain ⟨e1, e2⟩ := h2.disj _ _ _ _ _ a2 b2
      exact ⟨by omega, e2⟩
  · rcases List.mem_append.1 hv with h' | h'
    · exact h.one v h'
    · exact h2.one v h'
/-- Only read from now on. -/
theorem RowL.freeze {q : RK} {Y : Nat → Nat → Nat → Prop} {ks : List LK} {xs : List (List D)} {us : List Value} (h : RowL T w c q Y ks xs us) {c' : Cx} (hz : ∀ b, c.Z b → c'.Z b) (hY : q = .tree → ∀ p j k, Y p j k → c'.Z k) {q' : RK} (hq' : q' ≠ .tree) : RowL T w c' q' (fun _ _ _ => False) ks xs us := by
  refine ⟨h.len, h.hx, fun e => absurd e hq', fun _ p x j κ d u a1 a2 a3 a4 => ?_, fun _ _ _ _ _ h => h.elim, h.one⟩
  by_cases e : q = .tree
  · exact (h.own e p x j κ d u a1 a2 a3 a4).rd fun k hk => hY e p j k hk
  · exact (h.rd e p x j κ d u a1 a2 a3 a4).mono (fun _ _ => rfl) hz
/-- A row in memory, out of its elements' cells. -/
theorem RowL.ow {Y : Nat → Nat → Nat → Prop} {e : TypeId} {ie : TI} (hT : T e = some ie) {xs : List (List D)} {us rest : List Value} (h : RowL T w c .tree Y ie.ks xs us) {b cap : Nat} (hb : w.heap[b]? = some (.cells (us ++ rest).toArray e (0, 0))) (hm : xs.length ≤ maxI) (hcap : (us ++ rest).length = cap * ie.ks.length) (hle : xs.length ≤ cap) (hn : ∀ p j, ¬ Y p j b) :
    Ow T w (fun k => k = b ∨ ∃ p j, p < xs.length ∧ j < ie.ks.length ∧ Y p j k) (.sl e) (.sl xs) (.slice (some ⟨b, 0, none⟩) xs.length cap) := by
  have hg : ∀ p j, p < xs.length → j < ie.ks.length → us[p * ie.ks.length + j]? = some (us.getD (p * ie.ks.length + j) undef) := by
    intro p j hp hj
    have : p * ie.ks.length + j < us.length := by rw [h.len]; exact idx_lt hp hj
    simp [List.getD, List.getElem?_eq_getElem this]
  refine .sl (fun p j => us.getD (p * ie.ks.length + j) undef) Y hT hm hb (by simpa using hcap) hle h.hx (fun p j hp hj => ?_) (fun p x j κ d h1 h2 h3 => ?_) h.disj hn (fun k => Iff.rfl)
  · have : p * ie.ks.length + j < us.length := by rw [h.len]; exact idx_lt hp hj
    simp only [List.getElem?_toArray]
    rw [List.getElem?_append_left this]
    exact hg p j hp hj
  · exact h.own rfl _ _ _ _ _ _ h1 h2 h3 (hg p j (List.getElem?_eq_some_iff.1 h1).1 (List.getElem?_eq_some_iff.1 h2).1)
theorem RowL.sh {q : RK} (hq : q ≠ .tree) {Y : Nat → Nat → Nat → Prop} {X : Nat → Prop} {e : TypeId} {ie : TI} (hT : T e = some ie) {xs : List (List D)} {us rest : List Value} (h : RowL T w c q Y ie.ks xs us) {b cap : Nat} (hb : w.heap[b]? = some (.cells (us ++ rest).toArray e (0, 0))) (hm : xs.length ≤ maxI) (hcap : (us ++ rest).length = cap * ie.ks.length) (hle : xs.length ≤ cap) (hX : ∀ k, X k ↔ k = b) :
    Sh T w c.Z X e xs (.slice (some ⟨b, 0, none⟩) xs.length cap) := by
  have hg : ∀ p j, p < xs.length → j < ie.ks.length → us[p * ie.ks.length + j]? = some (us.getD (p * ie.ks.length + j) undef) := by
    intro p j hp hj
    have : p * ie.ks.length + j < us.length := by rw [h.len]; exact idx_lt hp hj
    simp [List.getD, List.getElem?_eq_getElem this]
  refine .sl (fun p j => us.getD (p * ie.ks.length + j) undef) hT hm hb (by simpa using hcap) hle h.hx (fun p j hp hj => ?_) (fun p x j κ d h1 h2 h3 => ?_) hX
  · have : p * ie.ks.length + j < us.length := by rw [h.len]; exact idx_lt hp hj
    simp only [List.getElem?_toArray]
    rw [List.getElem?_append_left this]
    exact hg p j hp hj
  · exact h.rd hq _ _ _ _ _ _ h1 h2 h3 (hg p j (List.getElem?_eq_some_iff.1 h1).1 (List.getElem?_eq_some_iff.1 h2).1)
/-- A new row on a new block. -/
theorem newRow_step {c1 : Cx} {S1 : Sto} {q : RK} (hfr : q ≠ .froz) {Y : Nat → Nat → Nat → Prop} (hg : Gs T w c S nx c1 S1 fun b => q = .tree ∧ ∃ p j, Y p j b) {e : TypeId} {ie : TI} (hT : T e = some ie) {xs : List (List D)} {us rest : List Value} (h : RowL T w c1 q Y ie.ks xs us) {cap : Nat} (hm : xs.length ≤ maxI) (hcap : (us ++ rest).length = cap * ie.ks.length) (hle : xs.length ≤ cap)
    {w1 : World} (hw1 : w1.heap = w.heap ∧ w1.os = w.os ∧ w1.tape = w.tape ∧ w1.output = w.output) :
    ∃ c', Step T w c S nx (w1.alloc (.cells (us ++ rest).toArray e)) c' ((nx, .row e q 0 xs) :: S1) (nx + 1) ∧ LR T (w1.alloc (.cells (us ++ rest).toArray e)) c' ((nx, .row e q 0 xs) :: S1) (nx + 1) (.all nx 0) (.slice (some ⟨w.heap.size, 0, none⟩) xs.length cap) := by
  have hs := hg.sat
  let val : Value := .slice (some ⟨w.heap.size, 0, none⟩) xs.length cap
  let Lo : Nat → Prop := fun k => q = .tree ∧ ∃ p j, p < xs.length ∧ j < ie.ks.length ∧ Y p j k
  let w2 := w.alloc (.cells (us ++ rest).toArray e)
  have hold : ∀ b, b < w.heap.size → w2.heap[b]? = w.heap[b]? := fun b hb => heap_alloc_old _ _ _ hb
  have hYlt : q = .tree → ∀ p j k, Y p j k → k < w.heap.size := fun e p j k hk => (hg.lo k ⟨e, p, j, hk⟩).1
  have hlo : ∀ b, Lo b → b < w.heap.size ∧ (∀ id, ¬ c1.X id b) ∧ ¬ c1.Z b := fun b hb => by
    obtain ⟨e, p, j, _, _, h⟩ := hb
    obtain ⟨g1, g2, g3, _⟩ := hg.lo b ⟨e, p, j, h⟩
    exact ⟨g1, g2, g3⟩
  have hb : w2.heap[w.heap.size]? = some (.cells (us ++ rest).toArray e (0, 0)) := heap_alloc_new _ _
  let c' := c1.new nx val fun k => k = w.heap.size ∨ Lo k
  have hos : OS T w2 c' ((nx, .row e q 0 xs) :: S1) (nx + 1) nx (.row e q 0 xs) := by
    have hcur : c'.cur nx = val := up_same _ _ _
    have hX : c'.X nx = fun k => k = w.heap.size ∨ Lo k := up_same _ _ _
    cases q with
    | froz => exact absurd rfl hfr
    | tree =>
      simp only [OS]
      rw [hcur, hX]
      have h2 : RowL T w2 c1 .tree Y ie.ks xs us := h.mono (fun p j k hk => hold k (hYlt rfl p j k hk)) (fun b hz => hold b (hs.zlt b hz)) (fun _ h => h)
      have := h2.ow hT hb hm hcap hle (fun p j hk => by have := hYlt rfl p j _ hk; omega)
      have he : (fun k => k = w.heap.size ∨ Lo k) = fun k => k = w.heap.size ∨ ∃ p j, p < xs.length ∧ j < ie.ks.length ∧ Y p j k := by
        funext k; simp [Lo]
      rw [he]
      exact this
    | sh =>
      simp only [OS]
      rw [hcur, hX]
      have h2 : RowL T w2 c1 .sh (fun _ _ _ => False) ie.ks xs us := (h.freeze (c' := c1) (fun _ h => h) (fun e => nomatch e) (by simp)).mono (fun _ _ _ h => h.elim) (fun b hz => hold b (hs.zlt b hz)) (fun _ h => h)
      exact h2.sh (by simp) hT hb hm hcap hle (fun k => by simp [Lo])
  obtain ⟨h1, h2⟩ := Step.alloc hs (.row e q 0 xs) (.cells (us ++ rest).toArray e) val Lo hlo hos
  have hext := Ext.alloc_of hg.ext hs (.cells (us ++ rest).toArray e) val Lo (fun b hb _ => by
    obtain ⟨e, p, j, _, _, h⟩ := hb
    exact (hg.lo b ⟨e, p, j, h⟩).2.2.2)
  have hst : Stays c S nx c' ((nx, .row e q 0 xs) :: S1) := hg.st.trans h2 (Nat.le_refl _)
  have hh : (w1.alloc (.cells (us ++ rest).toArray e)).heap = w2.heap := by
    show w1.heap.push _ = w.heap.push _
    rw [hw1.1]
  have hgoal : LR T w2 c' ((nx, .row e q 0 xs) :: S1) (nx + 1) (.all nx 0) val := by
    refine ⟨by omega, ⟨_, _, _, rfl⟩, fun e2 k2 v2 x2 hr => ?_⟩
    rw [geto_cons, if_pos rfl] at hr
    cases hr
    exact ⟨Nat.le_refl _, fun _ => (up_same _ _ _).symm⟩
  have hsat : Sat T (w1.alloc (.cells (us ++ rest).toArray e)) c' ((nx, .row e q 0 xs) :: S1) (nx + 1) :=
    h1.of (Stays.refl _ _ _) (Nat.le_refl _) (by rw [hh]; exact Nat.le_refl _) (fun _ h => h) (fun b _ => by rw [hh]) (fun id => .inr ⟨rfl, rfl, rfl, fun b _ => by rw [hh]⟩) h1.lt h1.disj h1.xz (fun b hz => by rw [hh]; exact h1.zlt b hz) (fun id b hx => by rw [hh]; exact h1.xlt id b hx)
  refine ⟨c', ⟨hsat, ⟨hw1.2.1.trans hext.os.symm ▸ hw1.2.1, hw1.2.2.1, hw1.2.2.2, by rw [hh]; exact hext.size, fun b hb hx => by rw [hh]; exact hext.keep b hb hx, hext.zup, hext.znew, hext.xnew⟩, hst, by omega⟩, hgoal⟩
end Go.Proofs.Ytodhnbjncmihkaa.V
end

section
/- The symbolic machine V: literals; make. -/
set_option linter.unusedVariables false
set_option linter.unusedSimpArgs false
namespace Go.Proofs.Ytodhnbjncmihkaa.V
open Go
variable {T : TypeId → Option TI} {w : World} {c : Cx} {S : Sto} {nx : Nat}

theorem fold_set (off : Nat) : ∀ (l : List Value) (k : Nat) (cs : Array Value), off + k + l.length ≤ cs.size →
    ((l.zipIdx k).foldl (fun cs (p : Value × Nat) => cs.setIfInBounds (off + p.2) p.1) cs) = put cs (off + k) l
  | [], k, cs, h => by simp [put]
  | v :: l, k, cs, h => by
    simp only [List.zipIdx_cons, List.foldl_cons]
    simp only [List.length_cons] at h
    rw [fold_set off l (k + 1) _ (by simp; omega)]
    apply Array.ext_getElem?
    intro m
    rw [put_get (by simp; omega), put_get (by simp; omega), Array.getElem?_setIfInBounds]
    simp only [List.length_cons]
    by_cases h1 : m = off + k
    · subst h1
      rw [if_neg (by omega), if_pos rfl, if_pos (by omega), if_pos (by omega)]
      simp
    · by_cases h2 : off + k ≤ m ∧ m < off + k + (l.length + 1)
      · rw [if_pos (by omega), if_pos h2, show m - (off + k) = (m - (off + (k + 1))) + 1 by omega]; simp
      · rw [if_neg (by omega), if_neg (by omega), if_neg h2]
theorem fill_one (v : Value) (off : Nat) (cells : Array Value) (h : off + v.cells.size ≤ cells.size) : (v.cells.zipIdx.foldl (fun cs (c, j) => cs.setIfInBounds (off + j) c) cells) = put cells off v.cells.toList := by
  have := fold_set off v.cells.toList 0 cells (by simp; omega)
  rw [← Array.foldl_toList, Array.toList_zipIdx]
  simpa using this
theorem put_put {cs : Array Value} {o : Nat} {us vs : List Value} (h : o + us.length + vs.length ≤ cs.size) : put (put cs o us) (o + us.length) vs = put cs o (us ++ vs) := by
  apply Array.ext_getElem?
  intro m
  rw [put_get (by rw [put_size (by omega)]; omega), put_get (by omega), put_get (by simp; omega)]
  simp only [List.length_append]
  by_cases h1 : o ≤ m ∧ m < o + us.length
  · rw [if_neg (by omega), if_pos h1, if_pos (by omega), List.getElem?_append_left (by omega)]
  · by_cases h2 : o + us.length ≤ m ∧ m < o + us.length + vs.length
    · rw [if_pos h2, if_pos (by omega), List.getElem?_append_right (by omega), show m - o - us.length = m - (o + us.length) by omega]
    · rw [if_neg h2, if_neg h1, if_neg (by omega)]
theorem put_nil (cs : Array Value) (o : Nat) : put cs o [] = cs := by simp [put]
theorem put_all {cs : Array Value} {us : List Value} (h : us.length = cs.size) : put cs 0 us = us.toArray := by
  simp [put, h]
theorem flat_len (n : Nat) : ∀ (l : List (Nat × Value)), (∀ p ∈ l, p.2.cells.size = n) → (l.flatMap fun p => p.2.cells.toList).length = l.length * n
  | [], _ => by simp
  | p :: l, h => by
    have h1 := h p (by simp)
    have h2 := flat_len n l fun q hq => h q (by simp [hq])
    simp only [List.flatMap_cons, List.length_append, List.length_cons, Array.length_toList, h1, h2, Nat.add_mul]
    omega
theorem fill_seq (n : Nat) : ∀ (l : List (Nat × Value)) (j : Nat) (cells : Array Value), (∀ (k : Nat) (p : Nat × Value), l[k]? = some p → p.1 = j + k ∧ p.2.cells.size = n) → (j + l.length) * n ≤ cells.size →
    Instr.fill (fun i => some (i * n, n)) cells l = some (put cells (j * n) (l.flatMap fun p => p.2.cells.toList))
  | [], j, cells, _, _ => by simp [Instr.fill, put_nil]
  | (i, v) :: l, j, cells, h, hl => by
    obtain ⟨h1, h2⟩ := h 0 (i, v) rfl
    simp only [Nat.add_zero] at h1 h2
    subst h1
    simp only [List.length_cons] at hl
    have hle : i * n + v.cells.size ≤ cells.size := by
      have : (i + 1) * n ≤ (i + (l.length + 1)) * n := Nat.mul_le_mul_right _ (by omega)
      rw [Nat.add_mul] at this; omega
    have hsz : (put cells (i * n) v.cells.toList).size = cells.size := put_size (by simpa using hle)
    simp only [Instr.fill]
    rw [if_neg (by simp; omega), fill_one v _ _ hle]
    have ih := fill_seq n l (i + 1) (put cells (i * n) v.cells.toList) (fun k p hp => by
      obtain ⟨g1, g2⟩ := h (k + 1) p (by simpa using hp)
      exact ⟨by omega, g2⟩) (by rw [hsz, show i + 1 + l.length = i + (l.length + 1) by omega]; exact hl)
    rw [ih]
    congr 1
    have hfm : (l.flatMap fun p => p.2.cells.toList).length = l.length * n := flat_len n l fun p hp => by
      obtain ⟨k, hk⟩ := List.mem_iff_getElem?.1 hp
      exact (h (k + 1) p (by simpa using hk)).2
    rw [show (i + 1) * n = i * n + v.cells.toList.length by rw [Nat.add_mul]; simp; omega, put_put (by simp [hfm]; rw [show i * n + v.cells.size + l.length * n = (i + (l.length + 1)) * n by rw [Nat.add_mul, Nat.add_mul]; omega]; exact hl)]
    simp

/-! ### elements of a literal -/
theorem elemsD_sound {ks : List LK} {F : Frm} {a : Act} : ∀ {parts : List (Nat × Operand)} {j : Nat} {q : RK} {c : Cx} {S : Sto} {K : List (List D) → RK → Sto → Prop} (h : elemsD ks F parts j q S K) (hs : Sat T w c S nx) (hF : ∀ t, VR T w c S nx (get F t) (a.tmps.getD t undef)) (hx : ∀ p ∈ parts, xOk p.2 = true),
    ∃ xs q' S' c', ∃ Y : Nat → Nat → Nat → Prop, K xs q' S' ∧ Gs T w c S nx c' S' (fun b => q' = .tree ∧ ∃ p j, Y p j b) ∧ (q' = q ∨ q' = .sh) ∧ RowL T w c' q' Y ks xs (parts.flatMap fun p => (a.eval p.2).cells.toList) ∧ xs.length = parts.length ∧
      (∀ (k : Nat) (p : Nat × Operand), parts[k]? = some p → p.1 = j + k ∧ (a.eval p.2).cells.size = ks.length)
  | [], j, q, c, S, K, h, hs, hF, hx => ⟨[], q, S, c, fun _ _ _ => False, h, (Gs.refl hs).less fun b hb => by obtain ⟨_, p, j, hj⟩ := hb; exact hj, .inl rfl, RowL.nil, rfl, fun k p hk => by simp at hk⟩
  | (i, x) :: r, j, q, c, S, K, h, hs, hF, hx => by
    simp only [elemsD] at h
    split at h
    · rename_i ls hi hls
      have hij := beq_t hi
      subst hij
      have hl := Value.cells_list (ev_sound hF (hx (i, x) (by simp))) hls
      obtain ⟨ds, q1, S1, c1, Y0, hK, hg, hq, hv, _⟩ := toDs_sound (T := T) h hs hl
      have hF1 : ∀ t, VR T w c1 S1 nx (get F t) (a.tmps.getD t undef) := fun t => (hF t).step hg.st (Nat.le_refl _) (fun _ _ => rfl) hg.ext.zup
      obtain ⟨xs, q2, S2, c2, Y, hK2, hg2, hq2, hr, hlen, hparts⟩ := elemsD_sound hK hg.sat hF1 (fun p hp => hx p (by simp [hp]))
      have hps : ∀ (k : Nat) (p : Nat × Operand), ((i, x) :: r)[k]? = some p → p.1 = i + k ∧ (a.eval p.2).cells.size = ks.length := by
        intro k p hk
        cases k with
        | zero => simp at hk; subst hk; exact ⟨rfl, by simpa using hv.len'⟩
        | succ k =>
          obtain ⟨g1, g2⟩ := hparts k p (by simpa using hk)
          exact ⟨by omega, g2⟩
      have hqq : q2 = q ∨ q2 = .sh := by
        rcases hq2 with rfl | rfl
        · exact hq
        · exact .inr rfl
      have ht := hg.trans hg2
      have hR0 := RowL.ofLv hv hl.cells1
      simp only [List.flatMap_cons]
      by_cases e2 : q2 = .tree
      · subst e2
        have e1 : q1 = .tree := by
          rcases hq2 with h | h
          · exact h.symm
          · cases h
        subst e1
        have hR0' := hR0.mono (w' := w) (c' := c2) (fun _ _ _ _ => rfl) (fun _ _ => rfl) hg2.ext.zup
        refine ⟨ds :: xs, .tree, S2, c2, _, hK2, ht.less fun b hb => ?_, hqq, hR0'.app hr (fun p j p' j' k h1 h2 => ?_), by simp [hlen], hps⟩
        · obtain ⟨_, p, j, hj⟩ := hb
          rcases hj with ⟨_, _, hj⟩ | ⟨_, hj⟩
          · exact .inl ⟨rfl, j, hj⟩
          · exact .inr ⟨rfl, _, _, hj⟩
        · obtain ⟨_, h3⟩ := h1
          obtain ⟨_, _, _, id, h4⟩ := hg2.lo k ⟨rfl, _, _, h2⟩
          exact (hg.lo k ⟨rfl, _, h3⟩).2.1 id h4
      · have hz := ht.toZ (fun b => q1 = .tree ∧ ∃ j, Y0 j b) fun b hb => .inl hb
        have hR0' := hR0.freeze (c' := c2.zup fun b => q1 = .tree ∧ ∃ j, Y0 j b) (fun b hb => .inl (hg2.ext.zup b hb)) (fun e p j k hk => .inr ⟨e, j, hk.2⟩) e2
        have hr' := hr.freeze (c' := c2.zup fun b => q1 = .tree ∧ ∃ j, Y0 j b) (fun b hb => .inl hb) (fun e => absurd e e2) e2
        exact ⟨ds :: xs, q2, S2, _, _, hK2, hz.less fun b hb => absurd hb.1 e2, hqq, hR0'.app hr' (fun _ _ _ _ _ h => h.elim), by simp [hlen], hps⟩
    · exact h.elim
theorem zOw : ∀ {ks : List LK} {us : List Value}, zOks ks us = true → noOth ks = true → us.length = ks.length ∧ (zeroDs ks).length = ks.length ∧ ∀ (j : Nat) (κ : LK) (d : D) (u : Value), ks[j]? = some κ → (zeroDs ks)[j]? = some d → us[j]? = some u → Ow T w (fun _ => False) κ d u
  | [], [], _, _ => ⟨rfl, rfl, fun j κ d u h => by simp at h⟩
  | [], _ :: _, h, _ => by simp [zOks] at h
  | _ :: _, [], h, _ => by simp [zOks] at h
  | κ :: ks, u :: us, h, hn => by
    simp only [zOks, Bool.and_eq_true] at h
    have hn' : noOth ks = true := by cases κ <;> simp_all [noOth]
    obtain ⟨h1, h2, h3⟩ := zOw h.2 hn'
    refine ⟨by simp [h1], by simp [zeroDs, h2], fun j κ' d u' a1 a2 a3 => ?_⟩
    cases j with
    | succ j => exact h3 j κ' d u' (by simpa using a1) (by simpa [zeroDs] using a2) (by simpa using a3)
    | zero =>
      simp at a1 a3
      simp only [zeroDs, List.getElem?_cons_zero, Option.some.injEq] at a2
      subst a1; subst a2; subst a3
      have hz := h.1
      unfold zOk1 at hz
      split at hz
      · rename_i k k' n
        simp only [Bool.and_eq_true, beq_iff_eq] at hz
        cases kEq_t hz.1
        obtain ⟨_, rfl⟩ := hz
        exact .int (fun _ h => h) (by cases k <;> simp [rng])
      · simp at hz; subst hz; exact .bool (fun _ h => h) _
      · rename_i s
        have hz : s.size = 0 := by simpa using hz
        have : s = ⟨#[]⟩ := by
          obtain ⟨a⟩ := s
          have : a.size = 0 := hz
          rw [Array.eq_empty_of_size_eq_zero this]
        subst this
        exact .str (fun _ h => h) (by rw [hz]; simp [maxI])
      · exact .nil (fun _ h => h)
      · simp [noOth] at hn
      · simp at hz
theorem Ow.cell0 {X : Nat → Prop} {κ : LK} {d : D} {u : Value} (h : Ow T w X κ d u) : u.oneCell' = true := h.one
/-- A row of zeros. -/
theorem RowL.zeros {ks : List LK} {z : Array Value} (hz : zOks ks z.toList = true) (hn : noOth ks = true) (n : Nat) : RowL T w c .tree (fun _ _ _ => False) ks (List.replicate n (zeroDs ks)) (madeCells z (n * ks.length)).toList := by
  obtain ⟨h1, h2, h3⟩ := zOw (T := T) (w := w) hz hn
  have hzs : z.size = ks.length := by simpa using h1
  have hg : ∀ p j, p < n → j < ks.length → (madeCells z (n * ks.length)).toList[p * ks.length + j]? = z.toList[j]? := by
    intro p j hp hj
    have hlt := idx_lt hp hj
    have hmod : (p * ks.length + j) % ks.length = j := by rw [Nat.mul_comm, Nat.mul_add_mod, Nat.mod_eq_of_lt hj]
    simp only [madeCells, Array.getElem?_toList, Array.getElem?_map, Array.getElem?_range, hlt, if_true, Option.map_some, hzs, hmod]
    rw [Array.getElem?_eq_getElem (by omega), getElem!_pos z j (by omega)]
  have hrep : ∀ (p : Nat) (x : List D), (List.replicate n (zeroDs ks))[p]? = some x → p < n ∧ x = zeroDs ks := by
    intro p x h
    rw [List.getElem?_replicate] at h
    split at h
    · cases h; exact ⟨by assumption, rfl⟩
    · cases h
  refine ⟨by simp [size_madeCells], fun p x h => ?_, fun _ p x j κ d u a1 a2 a3 a4 => ?_, fun h => absurd rfl h, fun _ _ _ _ _ h => h.elim, fun v hv => ?_⟩
  · rw [(hrep p x h).2]; exact h2
  · obtain ⟨hp, rfl⟩ := hrep _ _ a1
    rw [hg p j hp (List.getElem?_eq_some_iff.1 a2).1] at a4
    exact h3 j κ d u a2 a3 a4
  · obtain ⟨m, hm⟩ := List.mem_iff_getElem?.1 hv
    have hlt := (List.getElem?_eq_some_iff.1 hm).1
    simp [size_madeCells] at hlt
    have hk : 0 < ks.length := Nat.pos_of_ne_zero fun e => by rw [e] at hlt; simp at hlt
    have hj : m % ks.length < ks.length := Nat.mod_lt _ hk
    have hp : m / ks.length < n := (Nat.div_lt_iff_lt_mul hk).2 hlt
    have := hg (m / ks.length) (m % ks.length) hp hj
    rw [Nat.div_add_mod', hm] at this
    have e1 := List.getElem?_eq_getElem hj
    have e2 := List.getElem?_eq_getElem (show m % ks.length < (zeroDs ks).length by omega)
    exact (h3 _ _ _ _ e1 e2 this.symm).one

/-- What there was is as it was. -/
def Quiet (w w' : World) : Prop := ∀ b, b < w.heap.size → w'.heap[b]? = w.heap[b]?
theorem Quiet.alloc (w : World) (o : Obj) : Quiet w (w.alloc o) := fun b hb => heap_alloc_old _ _ _ hb
theorem makeSlice_sound {C : Cfg} (hT : TOk C.P C.T) (hs : Sat C.T w c S nx) {t e : TypeId} {i ie : TI} (hi : C.T t = some i) (hd : i.d = .sl e) (hie : C.T e = some ie) (hn : noOth ie.ks = true) {kl kc : IntKind} {n : Int} (h0 : 0 ≤ n) (hby : 1 ≤ ie.bytes) (hb : (ie.bytes : Int) * n ≤ 140737488355328) :
    ∃ r w' c', (Instr.makeSlice t (.int kl n) (.int kc n)).run C.P w = .ok r w' ∧ Step C.T w c S nx w' c' ((nx, .row e .tree 0 (List.replicate n.toNat (zeroDs ie.ks))) :: S) (nx + 1) ∧ LR C.T w' c' ((nx, .row e .tree 0 (List.replicate n.toNat (zeroDs ie.ks))) :: S) (nx + 1) (.all nx 0) r ∧ Quiet w w' := by
  obtain ⟨inf, z, ht⟩ := hT.at hi
  obtain ⟨infe, ze, he⟩ := hT.at hie
  have hbig : n ≤ 9223372036854775807 := by
    have h1 : (1 : Int) * n ≤ (ie.bytes : Int) * n := Int.mul_le_mul_of_nonneg_right (by omega) h0
    omega
  have hrun := run_make (P := C.P) w t e infe ze (ht.sl hd) he.hi he.hz kl kc n n h0 (Int.le_refl _) (by rw [he.bytes]; omega) hbig
  rw [he.size] at hrun
  obtain ⟨c', h1, h2⟩ := newRow_step (us := (madeCells ze.cells (n.toNat * ie.ks.length)).toList) (rest := []) (by simp) ((Gs.refl hs).less fun b hb => by obtain ⟨_, p, j, hj⟩ := hb; exact hj) hie (RowL.zeros he.zok hn n.toNat) (cap := n.toNat) (by simp [maxI]; omega) (by simp [size_madeCells]) (by simp) (w1 := w) ⟨rfl, rfl, rfl, rfl⟩
  simp only [List.append_nil, Array.toArray_toList, List.length_replicate] at h1 h2
  exact ⟨_, _, c', hrun, h1, h2, fun b hb => heap_alloc_old _ _ _ hb⟩
theorem buildSlice_sound {C : Cfg} (hT : TOk C.P C.T) (hs : Sat C.T w c S nx) {t e : TypeId} {i ie : TI} (hi : C.T t = some i) (hd : i.d = .sl e) (hie : C.T e = some ie) {F : Frm} {a : Act} (hF : ∀ t, VR C.T w c S nx (get F t) (a.tmps.getD t undef)) {parts : Array (Nat × Operand)} (hx : ∀ p ∈ parts.toList, xOk p.2 = true) (hlen0 : parts.toList.length ≤ 4096) (hlen : parts.toList.length * ie.ks.length ≤ 4096)
    {K : V → Sto → Nat → Prop} (h : elemsD ie.ks F parts.toList 0 .tree S fun xs q S => K (.one (.all nx 0)) ((nx, .row e q 0 xs) :: S) (nx + 1)) :
    ∃ r w' c' S' v, (Instr.buildSlice t parts.toList.length (parts.map fun (i, x) => (i, a.eval x))).run C.P w = .ok r w' ∧ Step C.T w c S nx w' c' S' (nx + 1) ∧ VR C.T w' c' S' (nx + 1) v r ∧ K v S' (nx + 1) ∧ Quiet w w' := by
  obtain ⟨inf, z, ht⟩ := hT.at hi
  obtain ⟨infe, ze, he⟩ := hT.at hie
  obtain ⟨xs, q, S1, c1, Y, hK, hg, hq, hr, hxl, hps⟩ := elemsD_sound h hs hF hx
  have hfr : q ≠ .froz := by rcases hq with rfl | rfl <;> simp
  have hul := hr.len
  rw [hxl] at hul
  have h24 : ¬ (16777216 < parts.toList.length * ie.ks.length) := by omega
  have hfill : Instr.fill (fun i => some (i * ie.ks.length, ie.ks.length)) ((Array.range (parts.toList.length * ie.ks.length)).map ((if parts.toList.length * ie.ks.length = 0 then #[] else ze.cells)[· % (if parts.toList.length * ie.ks.length = 0 then #[] else ze.cells).size]!)) (parts.toList.map fun (i, x) => (i, a.eval x)) = some (parts.toList.flatMap fun p => (a.eval p.2).cells.toList).toArray := by
    rw [fill_seq ie.ks.length _ 0 _ (fun k p hk => by
      rw [List.getElem?_map] at hk
      cases hg : parts.toList[k]? with
      | none => rw [hg] at hk; simp at hk
      | some p0 =>
        rw [hg] at hk
        cases hk
        obtain ⟨g1, g2⟩ := hps k p0 hg
        exact ⟨g1, g2⟩) (by simp)]
    rw [Nat.zero_mul, List.flatMap_map, put_all (by simp only [Array.size_map, Array.size_range]; exact hul)]
  obtain ⟨c', h1, h2⟩ := newRow_step (rest := []) hfr hg hie hr (cap := xs.length) (by simp [maxI]; omega) (by simp [hul, hxl]) (Nat.le_refl _) (w1 := w) ⟨rfl, rfl, rfl, rfl⟩
  simp only [List.append_nil] at h1 h2
  refine ⟨_, _, c', _, _, ?_, h1, .one h2, hK, fun b hb => heap_alloc_old _ _ _ hb⟩
  have hzero : (if parts.toList.length * ie.ks.length = 0 then (pure #[] : Sem (Array Value)) else do pure (← zeroValue e).cells).run C.P w = .ok (if parts.toList.length * ie.ks.length = 0 then #[] else ze.cells) w := by
    split <;> simp [zeroValue, typeInfo, he.hi, he.hz]
  rw [hxl]
  simp only [Instr.buildSlice, underlying, Sem.run_bind, run_program, Result.andThen_ok, ht.sl hd, Sem.run_pure, he.cells]
  rw [if_neg (by omega)]
  clear hzero
  split
  · rename_i h0
    simp only [if_pos h0] at hfill
    simp only [Sem.run_bind, Sem.run_pure, Result.andThen_ok, Array.toList_map, hfill, newRow, run_newObj, World.alloc_eq]
  · rename_i h0
    simp only [h0, if_false] at hfill
    simp only [zeroValue, typeInfo, he.hi, he.hz, run_program, Sem.run_bind, Sem.run_pure, Result.andThen_ok, Array.toList_map, hfill, newRow, run_newObj, World.alloc_eq]
end Go.Proofs.Ytodhnbjncmihkaa.V
end

section
/- The symbolic machine V: what is appended. -/
set_option linter.unusedVariables false
set_option linter.unusedSimpArgs false
namespace Go.Proofs.Ytodhnbjncmihkaa.V
open Go
variable {T : TypeId → Option TI} {w : World} {c : Cx} {S : Sto} {nx : Nat}

/-! ### the builtin's runs -/
/-- What is appended: its number; its cells. -/
structure Src (P : Program) (w : World) (size : Nat) (x : Value) (n : Nat) (news : List Value) : Prop where
  len : news.length = n * size
  num : (Builtin.lenOf x).run P w = .ok n w
  get : ∀ w' : World, w'.heap = w.heap → (Builtin.firstCells size n x).run P w' = .ok news.toArray w'
  one : ∀ v ∈ news, v.oneCell' = true
structure AT (P : Program) (t u e : TypeId) (ie : TI) (inf : TypeInfo) (z : Value) : Prop where
  ht : P.underlying t = some (.slice e)
  hu : ∃ d, P.underlying u = some d ∧ (∀ k, d ≠ .int k)
  he : TyF P e ie inf z
theorem run_app_room {P : Program} {t u ty e : TypeId} {ie : TI} {inf : TypeInfo} {z : Value} (h : AT P t u e ie inf z) {g sLen sCap n : Nat} {cur : Array Value} (hg : w.heap[g]? = some (.cells cur e (0, 0))) {x : Value} {news : List Value} (hx : Src P w ie.ks.length x n news)
    (hroom : sLen + n ≤ sCap) (hfit : sLen * ie.ks.length + news.length ≤ cur.size) :
    (Builtin.append_ #[t, u] ty #[.slice (some ⟨g, 0, none⟩) sLen sCap, x]).run P w = .ok (.slice (some ⟨g, 0, none⟩) (sLen + n) sCap) (w.setRow g (put cur (sLen * ie.ks.length) news)) := by
  obtain ⟨d, h1, h2⟩ := h.hu
  have hst := run_storeCells_at P g (sLen * ie.ks.length) e news 0 cur w hg (by simpa using hfit) hx.one
  simp only [Nat.add_zero] at hst
  have hz : (d matches .int _) = false := by cases d <;> first | rfl | exact absurd rfl (h2 _)
  have hf := hx.get w rfl
  simp only [Builtin.append_, Sem.run_bind, underlying, run_program, Result.andThen_ok, h.ht, Sem.run_pure, h.he.cells, List.getElem?_toArray, List.getElem?_cons_zero, List.getElem?_cons_succ, h1, hz, hx.num, hroom, if_true, Bool.false_eq_true, if_false, Bool.not_false, hf, add_plain, Nat.zero_add, hst]
  rfl
theorem run_app_none {P : Program} {t u ty e : TypeId} {ie : TI} {inf : TypeInfo} {z : Value} (h : AT P t u e ie inf z) {x : Value} {news : List Value} (hx : Src P w ie.ks.length x 0 news) :
    (Builtin.append_ #[t, u] ty #[.slice none 0 0, x]).run P w = .ok (.slice none 0 0) w := by
  obtain ⟨d, h1, h2⟩ := h.hu
  have hz : (d matches .int _) = false := by cases d <;> first | rfl | exact absurd rfl (h2 _)
  have hf := hx.get w rfl
  simp only [Builtin.append_, Sem.run_bind, underlying, run_program, Result.andThen_ok, h.ht, Sem.run_pure, h.he.cells, List.getElem?_toArray, List.getElem?_cons_zero, List.getElem?_cons_succ, h1, hz, hx.num, if_true, Bool.false_eq_true, if_false, Bool.not_false, hf, Nat.zero_add, Nat.le_refl]
theorem run_app_grow {P : Program} {t u ty e : TypeId} {ie : TI} {inf : TypeInfo} {z : Value} (h : AT P t u e ie inf z) {A : Option Addr} {sLen sCap n : Nat} {olds : List Value} (hold : ∀ w' : World, w'.heap = w.heap → (Builtin.firstCells ie.ks.length sLen (.slice A sLen sCap)).run P w' = .ok olds.toArray w') {x : Value} {news : List Value} (hx : Src P w ie.ks.length x n news)
    (hg : sCap < sLen + n) (hby : 1 ≤ ie.bytes) (hb : (sLen + n) * ie.bytes ≤ 140737488355328) :
    (Builtin.append_ #[t, u] ty #[.slice A sLen sCap, x]).run P w = .ok (.slice (some ⟨w.heap.size, 0, none⟩) (sLen + n) (grownCap w (sLen + n) sCap e)) (w.drew.alloc (.cells (olds ++ news ++ (Builtin.zeroCells z.cells (grownCap w (sLen + n) sCap e - (sLen + n))).toList).toArray e)) := by
  obtain ⟨d, h1, h2⟩ := h.hu
  have hz : (d matches .int _) = false := by cases d <;> first | rfl | exact absurd rfl (h2 _)
  have hf := hx.get w.drew rfl
  have ho := hold w.drew rfl
  have hn : ¬ (sLen + n ≤ sCap) := by omega
  have h63 : (sLen + n) ≤ 140737488355328 := by
    have : (sLen + n) * 1 ≤ (sLen + n) * ie.bytes := Nat.mul_le_mul_left _ hby
    omega
  have h63' : ¬ (((sLen + n : Nat) : Int) > IntKind.i64.max ∧ (False ∨ ie.bytes = 0)) := fun h => by rcases h.2 with h | h; exact h.elim; omega
  have h48 : ¬ (Builtin.nextslicecap (sLen + n) sCap * ie.bytes > 2 ^ 48) := by
    have := growslice_fits hg hb; omega
  simp only [Builtin.append_, Sem.run_bind, underlying, run_program, Result.andThen_ok, h.ht, Sem.run_pure, h.he.cells, List.getElem?_toArray, List.getElem?_cons_zero, List.getElem?_cons_succ, h1, hz, hx.num, hn, if_false, Bool.false_eq_true, Bool.not_false, if_true, typeInfo, h.he.hi, h.he.bytes, h63', h48]
  simp only [Sem.run_bind, run_choose, Question.forced, Bool.false_eq_true, if_false, Result.andThen_ok, run_askRoom, World.drew_eq, ho, hf, zeroValue, typeInfo, run_program, h.he.hi, h.he.hz, Sem.run_pure, newRow, run_newObj, World.alloc_eq, grownCap]
  congr 2
  congr 1
  apply Array.ext'
  simp [List.append_assoc]
end Go.Proofs.Ytodhnbjncmihkaa.V
end

section
/- The symbolic machine V: what is appended, in a row's words. -/
set_option linter.unusedVariables false
set_option linter.unusedSimpArgs false
namespace Go.Proofs.Ytodhnbjncmihkaa.V
open Go
variable {T : TypeId → Option TI} {w : World} {c : Cx} {S : Sto} {nx : Nat}

theorem Rd.scalarOw {Z : Nat → Prop} {κ : LK} {d : D} {u : Value} (h : Rd T w Z κ d u) (hκ : ∀ e, κ ≠ .sl e) : Ow T w (fun _ => False) κ d u := by
  cases h with
  | int h => exact .int (fun _ h => h) h
  | bool b => exact .bool (fun _ h => h) b
  | str h => exact .str (fun _ h => h) h
  | nil => exact absurd rfl (hκ _)
  | sl => exact absurd rfl (hκ _)
theorem Src.sliceSome {P : Program} {a : Addr} {n cap size : Nat} {us : List Value} (hl : us.length = n * size) (h : ∀ j v, us[j]? = some v → w.cell? (a.add j) = some v) (h1 : ∀ v ∈ us, v.oneCell' = true) : Src P w size (.slice (some a) n cap) n us :=
  ⟨hl, rfl, fun w' hw => run_firstCells_some (P := P) w' size n a n cap us hl (fun j v hj => by
    have : w'.cell? (a.add j) = w.cell? (a.add j) := cell_eq (by rw [hw])
    rw [this]; exact h j v hj), h1⟩
theorem Src.zero {P : Program} {A : Option Addr} {cap size : Nat} : Src P w size (.slice A 0 cap) 0 [] := by
  cases A with
  | none => exact ⟨by simp, rfl, fun w' _ => run_firstCells_none (P := P) w' size 0 0 cap, fun v h => by simp at h⟩
  | some a => exact Src.sliceSome (by simp) (fun j v h => by simp at h) (fun v h => by simp at h)
/-- The cells of what is only read. -/
theorem Rd.row {P : Program} {Z : Nat → Prop} {e : TypeId} {ie : TI} (hT : T e = some ie) {xs : List (List D)} {u : Value} (h : Rd T w Z (.sl e) (.sl xs) u) :
    ∃ us, us.length = xs.length * ie.ks.length ∧ (∀ (p : Nat) (x : List D), xs[p]? = some x → x.length = ie.ks.length) ∧ Src P w ie.ks.length u xs.length us ∧
      ∀ (p : Nat) (x : List D) (j : Nat) (κ : LK) (d : D) (v : Value), xs[p]? = some x → ie.ks[j]? = some κ → x[j]? = some d → us[p * ie.ks.length + j]? = some v → Rd T w Z κ d v := by
  cases h with
  | nil => exact ⟨[], by simp, fun p x h => by simp at h, Src.zero, fun p x j κ d v h => by simp at h⟩
  | @sl _ i' _ a cap u hT' hm hle hZ hs hx hc hr =>
    obtain rfl : ie = i' := by rw [hT] at hT'; exact Option.some.inj hT'
    have hcell : ∀ m, m < xs.length * ie.ks.length → w.cell? (a.add m) = some (u (m / ie.ks.length) (m % ie.ks.length)) ∧ m / ie.ks.length < xs.length ∧ m % ie.ks.length < ie.ks.length := by
      intro m hm'
      have hk : 0 < ie.ks.length := Nat.pos_of_ne_zero fun e => by rw [e] at hm'; simp at hm'
      have h1 : m % ie.ks.length < ie.ks.length := Nat.mod_lt _ hk
      have h2 : m / ie.ks.length < xs.length := (Nat.div_lt_iff_lt_mul hk).2 hm'
      refine ⟨?_, h2, h1⟩
      rw [← hc _ _ h2 h1, Nat.div_add_mod']
    refine ⟨(List.range (xs.length * ie.ks.length)).map fun m => u (m / ie.ks.length) (m % ie.ks.length), by simp, hx, Src.sliceSome (by simp) (fun m v hm' => ?_) (fun v hv => ?_), fun p x j κ d v h1 h2 h3 h4 => ?_⟩
    · have hlt := (List.getElem?_eq_some_iff.1 hm').1
      simp at hlt
      rw [(hcell m hlt).1]
      simpa [hlt] using hm'
    · simp only [List.mem_map, List.mem_range] at hv
      obtain ⟨m, hm', rfl⟩ := hv
      obtain ⟨_, h2, h3⟩ := hcell m hm'
      have e1 := List.getElem?_eq_getElem h2
      have e2 := List.getElem?_eq_getElem h3
      have hxl := hx _ _ e1
      have e3 := List.getElem?_eq_getElem (show m % ie.ks.length < xs[m / ie.ks.length].length by omega)
      exact (hr _ _ _ _ _ e1 e2 e3).one
    · have hp := (List.getElem?_eq_some_iff.1 h1).1
      have hj := (List.getElem?_eq_some_iff.1 h2).1
      have hlt := idx_lt hp hj
      simp [hlt] at h4
      have hn : 0 < ie.ks.length := by omega
      have h5 : (p * ie.ks.length + j) / ie.ks.length = p := by rw [Nat.mul_comm, Nat.mul_add_div hn, Nat.div_eq_of_lt hj]; omega
      rw [h5, Nat.mod_eq_of_lt hj] at h4
      subst h4
      exact hr _ _ _ _ _ h1 h2 h3
theorem RowL.ofRd {P : Program} {e : TypeId} {ie : TI} (hT : T e = some ie) {xs : List (List D)} {u : Value} (h : Rd T w c.Z (.sl e) (.sl xs) u) {q : RK} (hq : q ≠ .tree) : ∃ us, RowL T w c q (fun _ _ _ => False) ie.ks xs us ∧ Src P w ie.ks.length u xs.length us := by
  obtain ⟨us, h1, h2, h3, h4⟩ := h.row (P := P) hT
  exact ⟨us, ⟨h1, h2, fun e => absurd e hq, fun _ => h4, fun _ _ _ _ _ h => h.elim, h3.one⟩, h3⟩
theorem RowL.ofRdS {P : Program} {Z : Nat → Prop} {e : TypeId} {ie : TI} (hT : T e = some ie) {xs : List (List D)} {u : Value} (h : Rd T w Z (.sl e) (.sl xs) u) (q : RK) (hns : noSl ie.ks = true) : ∃ us, RowL T w c q (fun _ _ _ => False) ie.ks xs us ∧ Src P w ie.ks.length u xs.length us := by
  obtain ⟨us, h1, h2, h3, h4⟩ := h.row (P := P) hT
  exact ⟨us, ⟨h1, h2, fun _ p x j κ d v a1 a2 a3 a4 => (h4 p x j κ d v a1 a2 a3 a4).scalarOw (noSl_at hns a2), fun _ p x j κ d v a1 a2 a3 a4 => (h4 p x j κ d v a1 a2 a3 a4).scalar (noSl_at hns a2), fun _ _ _ _ _ h => h.elim, h3.one⟩, h3⟩

/-- A row of one's own, opened. -/
structure RowO (T : TypeId → Option TI) (w : World) (c : Cx) (id : Nat) (e : TypeId) (ie : TI) (q : RK) (xs : List (List D)) (Y : Nat → Nat → Nat → Prop) (us : List Value) : Prop where
  row : RowL T w c q Y ie.ks xs us
  sub : q = .tree → ∀ p j k, Y p j k → c.X id k
  at_ : (xs = [] ∧ c.cur id = .slice none 0 0 ∧ ∀ b, ¬ c.X id b) ∨ ∃ b cap arr, c.cur id = .slice (some ⟨b, 0, none⟩) xs.length cap ∧ w.heap[b]? = some (.cells arr e (0, 0)) ∧ us = arr.toList.take (xs.length * ie.ks.length) ∧ arr.size = cap * ie.ks.length ∧ xs.length ≤ cap ∧ c.X id b ∧ (q = .tree → ∀ p j, ¬ Y p j b) ∧ (q ≠ .tree → ∀ k, c.X id k → k = b)
theorem OS.opened {id : Nat} {e : TypeId} {ie : TI} (hT : T e = some ie) {q : RK} (hq : q ≠ .froz) {ver : Nat} {xs : List (List D)} (h : OS T w c S nx id (.row e q ver xs)) : ∃ Y us, RowO T w c id e ie q xs Y us := by
  cases q with
  | froz => exact absurd rfl hq
  | tree =>
    simp only [OS] at h
    generalize hv : c.cur id = v at h
    generalize hXX : c.X id = X at h
    cases h with
    | nil hX => exact ⟨_, [], RowL.nil, fun _ _ _ _ h => h.elim, .inl ⟨rfl, hv, by rw [hXX]; exact hX⟩⟩
    | @sl _ _ i' _ b arr cap u Y hT' hm hb hcap hle hx hc hr hd hn hX =>
      obtain rfl : ie = i' := by rw [hT] at hT'; exact Option.some.inj hT'
      have hlen : xs.length * ie.ks.length ≤ arr.size := by rw [hcap]; exact Nat.mul_le_mul_right _ hle
      have hg : ∀ {p j : Nat} {v : Value}, p < xs.length → j < ie.ks.length → (arr.toList.take (xs.length * ie.ks.length))[p * ie.ks.length + j]? = some v → v = u p j := by
        intro p j v hp hj h
        have h1 := hc p j hp hj
        rw [List.getElem?_take_of_lt (idx_lt hp hj), Array.getElem?_toList, h1] at h
        exact (Option.some.inj h).symm
      refine ⟨fun p j k => p < xs.length ∧ j < ie.ks.length ∧ Y p j k, _, ⟨by simp; omega, hx, fun _ p x j κ d v h1 h2 h3 h4 => ?_, fun h => absurd rfl h, fun p j p' j' k h1 h2 => hd _ _ _ _ _ h1.2.2 h2.2.2, fun v hv' => ?_⟩, fun _ p j k h => ?_, .inr ⟨b, cap, arr, hv, hb, rfl, hcap, hle, by rw [hXX]; exact (hX b).2 (.inl rfl), fun _ p j h => hn p j h.2.2, fun h => absurd rfl h⟩⟩
      · have hp := (List.getElem?_eq_some_iff.1 h1).1
        have hj := (List.getElem?_eq_some_iff.1 h2).1
        have : (fun k => p < xs.length ∧ j < ie.ks.length ∧ Y p j k) = Y p j := by funext k; simp [hp, hj]
        rw [this, hg hp hj h4]
        exact hr _ _ _ _ _ h1 h2 h3
      · obtain ⟨m, hm'⟩ := List.mem_iff_getElem?.1 hv'
        have hlt := (List.getElem?_eq_some_iff.1 hm').1
        simp at hlt
        have hk : 0 < ie.ks.length := Nat.pos_of_ne_zero fun e => by rw [e] at hlt; simp at hlt
        have hj : m % ie.ks.length < ie.ks.length := Nat.mod_lt _ hk
        have hp : m / ie.ks.length < xs.length := (Nat.div_lt_iff_lt_mul hk).2 (by omega)
        rw [← Nat.div_add_mod' m ie.ks.length] at hm'
        rw [hg hp hj hm']
        have e1 := List.getElem?_eq_getElem hp
        have e2 := List.getElem?_eq_getElem hj
        have hxl := hx _ _ e1
        have e3 := List.getElem?_eq_getElem (show m % ie.ks.length < xs[m / ie.ks.length].length by omega)
        exact (hr _ _ _ _ _ e1 e2 e3).one
      · rw [hXX]; exact (hX k).2 (.inr ⟨p, j, h⟩)
  | sh =>
    simp only [OS] at h
    generalize hv : c.cur id = v at h
    generalize hXX : c.X id = X at h
    cases h with
    | nil hX => exact ⟨_, [], RowL.nil, fun h => (by cases h), .inl ⟨rfl, hv, by rw [hXX]; exact hX⟩⟩
    | @sl i' _ b arr cap u hT' hm hb hcap hle hx hc hr hX =>
      obtain rfl : ie = i' := by rw [hT] at hT'; exact Option.some.inj hT'
      have hlen : xs.length * ie.ks.length ≤ arr.size := by rw [hcap]; exact Nat.mul_le_mul_right _ hle
      have hg : ∀ {p j : Nat} {v : Value}, p < xs.length → j < ie.ks.length → (arr.toList.take (xs.length * ie.ks.length))[p * ie.ks.length + j]? = some v → v = u p j := by
        intro p j v hp hj h
        have h1 := hc p j hp hj
        rw [List.getElem?_take_of_lt (idx_lt hp hj), Array.getElem?_toList, h1] at h
        exact (Option.some.inj h).symm
      refine ⟨fun _ _ _ => False, _, ⟨by simp; omega, hx, fun h => (by cases h), fun _ p x j κ d v h1 h2 h3 h4 => ?_, fun _ _ _ _ _ h => h.elim, fun v hv' => ?_⟩, fun h => (by cases h), .inr ⟨b, cap, arr, hv, hb, rfl, hcap, hle, by rw [hXX]; exact (hX b).2 rfl, fun h => (by cases h), fun _ k hk => (hX k).1 (by rw [← hXX]; exact hk)⟩⟩
      · rw [hg (List.getElem?_eq_some_iff.1 h1).1 (List.getElem?_eq_some_iff.1 h2).1 h4]
        exact hr _ _ _ _ _ h1 h2 h3
      · obtain ⟨m, hm'⟩ := List.mem_iff_getElem?.1 hv'
        have hlt := (List.getElem?_eq_some_iff.1 hm').1
        simp at hlt
        have hk : 0 < ie.ks.length := Nat.pos_of_ne_zero fun e => by rw [e] at hlt; simp at hlt
        have hj : m % ie.ks.length < ie.ks.length := Nat.mod_lt _ hk
        have hp : m / ie.ks.length < xs.length := (Nat.div_lt_iff_lt_mul hk).2 (by omega)
        rw [← Nat.div_add_mod' m ie.ks.length] at hm'
        rw [hg hp hj hm']
        have e1 := List.getElem?_eq_getElem hp
        have e2 := List.getElem?_eq_getElem hj
        have hxl := hx _ _ e1
        have e3 := List.getElem?_eq_getElem (show m % ie.ks.length < xs[m / ie.ks.length].length by omega)
        exact (hr _ _ _ _ _ e1 e2 e3).one
end Go.Proofs.Ytodhnbjncmihkaa.V
end

section
/- The symbolic machine V: append. -/
set_option linter.unusedVariables false
set_option linter.unusedSimpArgs false
namespace Go.Proofs.Ytodhnbjncmihkaa.V
open Go
variable {T : TypeId → Option TI} {w : World} {c : Cx} {S : Sto} {nx : Nat}

theorem RowO.src {P : Program} {id : Nat} {e : TypeId} {ie : TI} {q : RK} {xs : List (List D)} {Y : Nat → Nat → Nat → Prop} {us : List Value} (h : RowO T w c id e ie q xs Y us) : Src P w ie.ks.length (c.cur id) xs.length us := by
  rcases h.at_ with ⟨rfl, h1, _⟩ | ⟨b, cap, arr, h1, h2, h3, _⟩
  · rw [h1]
    have : us = [] := List.eq_nil_of_length_eq_zero (by rw [h.row.len]; simp)
    rw [this]
    exact Src.zero
  · rw [h1]
    refine Src.sliceSome h.row.len (fun j v hj => ?_) h.row.one
    rw [add_plain, Nat.zero_add, cell_at h2]
    have hlt := (List.getElem?_eq_some_iff.1 hj).1
    rw [h3] at hj hlt
    simp at hlt
    rw [List.getElem?_take_of_lt (by omega), Array.getElem?_toList] at hj
    exact hj
theorem part_rd {e : TypeId} {ie : TI} (hT : T e = some ie) {id ver lo n : Nat} {k : RK} {xs : List (List D)} {u : Value} (hs : Sat T w c S nx) (hr : geto S id = .row e k ver xs) (hl : LR T w c S nx (.part id ver lo n) u) : Rd T w (fun b => c.Z b ∨ c.X id b) (.sl e) (.sl ((xs.drop lo).take n)) u := by
  obtain ⟨h1, ⟨A, m, rfl, hnm⟩, h3⟩ := hl
  obtain ⟨hle, h4, _⟩ := (h3 _ _ _ _ hr).2 rfl
  have h0 := hs.os id
  rw [hr] at h0
  rcases Nat.eq_zero_or_pos n with rfl | hn
  · simp only [List.take_zero]; exact .nil
  · have h5 := h0.rd
    obtain ⟨b, cap, m', h6, h7⟩ := h4 ie hT hn
    injection h7 with h7 _ h8
    subst h7
    rw [h6] at h5
    exact h5.piece hT hle hn hnm
theorem takeIn_sound {P : Program} {e : TypeId} {q : RK} {x : L} {u : Value} {K : List (List D) → RK → Sto → Prop} (h : takeIn T e q S x K) (hfr : q ≠ .froz) (hs : Sat T w c S nx) (hl : LR T w c S nx x u) :
    ∃ ie ys q' S' c', ∃ Y : Nat → Nat → Nat → Prop, ∃ us, T e = some ie ∧ K ys q' S' ∧ Gs T w c S nx c' S' (fun b => q' = .tree ∧ ∃ p j, Y p j b) ∧ (q' = q ∨ q' = .sh) ∧ RowL T w c' q' Y ie.ks ys us ∧ Src P w ie.ks.length u ys.length us ∧
      (∀ id, id ∉ idsL x → geto S' id = geto S id ∧ c'.X id = c.X id ∧ c'.cur id = c.cur id) := by
  unfold takeIn at h
  split at h
  · exact h.elim
  rename_i ie hie
  have stay : ∀ {ys : List (List D)} {us : List Value}, K ys q S → RowL T w c q (fun _ _ _ => False) ie.ks ys us → Src P w ie.ks.length u ys.length us → ∃ ie ys q' S' c', ∃ Y : Nat → Nat → Nat → Prop, ∃ us, T e = some ie ∧ K ys q' S' ∧ Gs T w c S nx c' S' (fun b => q' = .tree ∧ ∃ p j, Y p j b) ∧ (q' = q ∨ q' = .sh) ∧ RowL T w c' q' Y ie.ks ys us ∧ Src P w ie.ks.length u ys.length us ∧
      (∀ id, id ∉ idsL x → geto S' id = geto S id ∧ c'.X id = c.X id ∧ c'.cur id = c.cur id) :=
    fun hK hr hsr => ⟨ie, _, q, S, c, _, _, hie, hK, (Gs.refl hs).less fun b hb => by obtain ⟨_, _, _, h⟩ := hb; exact h, .inl rfl, hr, hsr, fun _ _ => ⟨rfl, rfl, rfl⟩⟩
  have frz : ∀ {id ver : Nat} {e' : TypeId} {k : RK} {xs ys : List (List D)}, idsL x = [id] → geto S id = .row e' k ver xs → Rd T w (fun b => c.Z b ∨ c.X id b) (.sl e) (.sl ys) u → K ys .sh ((id, .row e' .froz ver xs) :: S) → ∃ ie ys q' S' c', ∃ Y : Nat → Nat → Nat → Prop, ∃ us, T e = some ie ∧ K ys q' S' ∧ Gs T w c S nx c' S' (fun b => q' = .tree ∧ ∃ p j, Y p j b) ∧ (q' = q ∨ q' = .sh) ∧ RowL T w c' q' Y ie.ks ys us ∧ Src P w ie.ks.length u ys.length us ∧
      (∀ id, id ∉ idsL x → geto S' id = geto S id ∧ c'.X id = c.X id ∧ c'.cur id = c.cur id) := by
    intro id ver e' k xs ys hids hr hrd hK
    obtain ⟨us, h1, h2⟩ := RowL.ofRd (P := P) (c := c.frz id) hie hrd (q := .sh) (by simp)
    refine ⟨ie, _, .sh, _, c.frz id, _, us, hie, hK, (Gs.freeze hs hr).less fun b hb => by obtain ⟨_, _, _, h⟩ := hb; exact h, .inr rfl, h1, h2, fun i hi => ?_⟩
    rw [hids] at hi
    have hne : i ≠ id := by simpa using hi
    exact ⟨by rw [geto_cons, if_neg (Ne.symm hne)], up_other _ _ _ hne, rfl⟩
  split at h
  · obtain ⟨rfl, _⟩ := hl
    refine stay h ⟨by simp, fun p x h => by simp at h, fun _ p x j κ d u h => by simp at h, fun _ p x j κ d u h => by simp at h, fun _ _ _ _ _ h => h.elim, fun v h => by simp at h⟩ Src.zero
  · rename_i s
    replace h := guardT_eq h
    obtain ⟨hk, h⟩ := h
    have hks := lksEq_t hk
    obtain ⟨rfl, _, _, hsz⟩ := hl
    have hsz := hsz _ rfl
    have hb : ∀ (b : UInt8), rng .u8 (b.toNat : Int) := fun b => by
      have := b.toNat_lt
      simp only [rng]; omega
    have hown : ∀ {p : Nat} {x : List D} {j : Nat} {κ : LK} {d : D} {v : Value}, (s.data.toList.map fun b : UInt8 => [D.sc (.int .u8 b.toNat)])[p]? = some x → ie.ks[j]? = some κ → x[j]? = some d → (s.data.toList.map fun b : UInt8 => Value.int .u8 b.toNat)[p * ie.ks.length + j]? = some v → ∃ n, κ = .int .u8 ∧ d = .sc (.int .u8 n) ∧ v = .int .u8 n ∧ rng .u8 n := by
      intro p x j κ d v a1 a2 a3 a4
      rw [hks] at a2 a4
      cases j with
      | succ j => simp at a2
      | zero =>
        simp at a2 a4
        rw [List.getElem?_map] at a1
        cases hg : s.data.toList[p]? with
        | none => rw [hg] at a1; simp at a1
        | some b =>
          rw [hg] at a1
          simp at a1
          subst a1
          simp at a3
          rw [Array.getElem?_toList] at hg
          rw [hg] at a4
          simp at a4
          exact ⟨b.toNat, a2.symm, a3.symm, a4.symm, hb b⟩
    refine stay h (us := s.data.toList.map fun b : UInt8 => Value.int .u8 b.toNat) ⟨by rw [hks]; simp, fun p x hx => ?_, fun _ p x j κ d v a1 a2 a3 a4 => ?_, fun _ p x j κ d v a1 a2 a3 a4 => ?_, fun _ _ _ _ _ h => h.elim, fun v hv => ?_⟩ ⟨by rw [hks]; simp, by simp [Builtin.lenOf], fun w' _ => ?_, fun v hv => ?_⟩
    · rw [hks]
      rw [List.getElem?_map] at hx
      cases hg : s.data.toList[p]? with
      | none => rw [hg] at hx; simp at hx
      | some b => rw [hg] at hx; simp at hx; subst hx; rfl
    · obtain ⟨n, rfl, rfl, rfl, hr⟩ := hown a1 a2 a3 a4
      exact .int (fun _ h => h) hr
    · obtain ⟨n, rfl, rfl, rfl, hr⟩ := hown a1 a2 a3 a4
      exact .int hr
    · simp only [List.mem_map] at hv
      obtain ⟨b, _, rfl⟩ := hv
      rfl
    · simp [Builtin.firstCells]
      apply Array.ext'
      simp
    · simp only [List.mem_map] at hv
      obtain ⟨b, _, rfl⟩ := hv
      rfl
  · rename_i e' xs
    replace h := guardT_eq h
    obtain ⟨hb, h⟩ := h
    cases beq_t hb
    split at h
    · rename_i hns
      obtain ⟨us, h1, h2⟩ := RowL.ofRdS (P := P) (c := c) hie hl q hns
      exact stay h h1 h2
    · obtain ⟨us, h1, h2⟩ := RowL.ofRd (P := P) (c := c) hie hl (q := .sh) (by simp)
      exact ⟨ie, _, .sh, S, c, _, us, hie, h, (Gs.refl hs).less fun b hb => by obtain ⟨_, _, _, h⟩ := hb; exact h, .inr rfl, h1, h2, fun _ _ => ⟨rfl, rfl, rfl⟩⟩
  · rename_i id ver
    split at h
    · rename_i e' q' ver' xs hr
      replace h := guardT_eq h
      obtain ⟨hb, h⟩ := h
      simp only [Bool.and_eq_true] at hb
      cases beq_t hb.1
      cases beq_t hb.2
      obtain ⟨h1, _, h3⟩ := hl
      have hu := (h3 _ _ _ _ hr).2 rfl
      have h0 := hs.os id
      rw [hr] at h0
      have hrd := h0.rd
      rw [← hu] at hrd
      split at h
      · rename_i hns
        obtain ⟨us, h1, h2⟩ := RowL.ofRdS (P := P) (c := c) hie hrd q hns
        exact stay h h1 h2
      · split at h
        · obtain ⟨Y, us, ho⟩ := h0.opened hie (by simp)
          refine ⟨ie, _, .tree, _, c.give id, Y, us, hie, h, (Gs.give hs h1).less fun b hb => ?_, .inl rfl, ho.row.mono (fun _ _ _ _ => rfl) (fun _ _ => rfl) (fun _ h => h), by rw [hu]; exact ho.src, fun i hi => ?_⟩
          · obtain ⟨_, p, j, h⟩ := hb
            exact ho.sub rfl p j b h
          · have hne : i ≠ id := by simpa [idsL] using hi
            exact ⟨by rw [geto_cons, if_neg (Ne.symm hne)], up_other _ _ _ hne, rfl⟩
        · exact frz rfl hr hrd h
    · exact h.elim
  · rename_i id ver lo n
    split at h
    · rename_i e' q' ver' xs hr
      replace h := guardT_eq h
      obtain ⟨hb, h⟩ := h
      simp only [Bool.and_eq_true] at hb
      cases beq_t hb.1
      cases beq_t hb.2
      have hrd := part_rd hie hs hr hl
      split at h
      · rename_i hns
        obtain ⟨us, h1, h2⟩ := RowL.ofRdS (P := P) (c := c) hie hrd q hns
        exact stay h h1 h2
      · exact frz rfl hr hrd h
    · exact h.elim
  · exact h.elim
end Go.Proofs.Ytodhnbjncmihkaa.V
end
