/- Part of a proof: texts En1 En2 of the engine and what is proved with it; nothing is assumed. -/
import Derived.Calls
import Derived.Defers
import Derived.Orders
import Derived.KernelRfl
import Derived.Laws.Entries
set_option linter.unusedVariables false
set_option linter.unusedSimpArgs false
/- The engine, part 1: abstract values, tries, the abstract semantics (continuation passing, tape-free). -/
namespace Go.Eng

/- paths: names of registers -/
inductive P2 where
  | h | z (p : P2) | o (p : P2)
deriving DecidableEq

/- tries -/
inductive T (α : Type) where
  | e | n (v : Option α) (l r : T α)

noncomputable def T.val {α : Type} (t : T α) : Option α := T.rec none (fun v _ _ _ _ => v) t
noncomputable def T.left {α : Type} (t : T α) : T α := T.rec .e (fun _ l _ _ _ => l) t
noncomputable def T.right {α : Type} (t : T α) : T α := T.rec .e (fun _ _ r _ _ => r) t
noncomputable def T.getp {α : Type} (p : P2) : T α → Option α :=
  P2.rec (motive := fun _ => T α → Option α) T.val (fun _ g t => g t.left) (fun _ g t => g t.right) p
noncomputable def T.setp {α : Type} (x : α) (p : P2) : T α → T α :=
  P2.rec (motive := fun _ => T α → T α) (fun t => .n (some x) t.left t.right)
    (fun _ g t => .n t.val (g t.left) t.right) (fun _ g t => .n t.val t.left (g t.right)) p
/- the path of a number -/
noncomputable def pthF (f : Nat) : Nat → P2 :=
  Nat.rec (motive := fun _ => Nat → P2) (fun _ => .h)
    (fun _ g k => Nat.rec (motive := fun _ => P2) .h
      (fun m _ => Bool.rec (P2.o (g (Nat.div m 2))) (P2.z (g (Nat.div m 2))) (Nat.beq (Nat.mod m 2) 0)) k) f
noncomputable def pth (k : Nat) : P2 := pthF (Nat.succ k) k
noncomputable def T.get {α : Type} (t : T α) (k : Nat) : Option α := T.getp (pth k) t
noncomputable def T.set {α : Type} (t : T α) (k : Nat) (x : α) : T α := T.setp x (pth k) t

/- abstract values. undef: nothing is known. int: s = 0: a number that is known; else a symbol. str: how many bytes, and these in base 256, the first one lowest.
   ptr, sl, gsl, map: of the run's own memory, by number; sl: a slice whose capacity is known; gsl: one whose capacity isn't. gptr, rsl: of memory that was there. -/
inductive V where
  | undef
  | int (k : IntKind) (n : Int) (s : Nat)
  | bool (b : Bool)
  | str (len code : Nat)
  | nilp | ptr (id off : Nat) | gptr (b off : Nat)
  | nils | sl (id off len cap esz : Nat) | gsl (id off len esz : Nat) | rsl (b off len cap esz : Nat)
  | nilm | map (id : Nat)
  | nilf | fn (f : Nat) (first caps : List V)
  | agg (cs : List V)
  | tup (vs : List V)
  | nili | iface (t : Nat) (v : V)

/- blocks: cnt elements of esz cells each -/
inductive Blk where
  | arr (esz cnt : Nat) (c : T (List V))
  | map (es : List (V × V × Nat)) (clock : Nat)
  | dead
  | bld (t e l c j : Nat)   -- a builder of strings (its type, bytes' type) that holds these bytes; its buffer's number
  | own (b : Nat)   -- the buffer of a builder

abbrev Heap := T Blk
abbrev Regs := T V
abbrev Roms := Nat → Nat → Nat → Option (List V)   -- memory that was there: block, offset, how many cells

/- operands -/
inductive X where
  | r (p : P2) | c (v : V) | s (i : Nat)
noncomputable def odef (o : Option V) : V := Option.rec V.undef (fun v => v) o
noncomputable def nthV (l : List V) : Nat → V :=
  List.rec (motive := fun _ => Nat → V) (fun _ => .undef) (fun x _ g i => Nat.rec (motive := fun _ => V) x (fun i _ => g i) i) l
/- registers: a stack of what a region makes for itself, and those with names -/
inductive RS where
  | mk (L : List V) (R : Regs)
noncomputable def RS.st (E : RS) : List V := RS.rec (fun L _ => L) E
noncomputable def RS.rg (E : RS) : Regs := RS.rec (fun _ R => R) E
noncomputable def X.ev (x : X) : RS → V := X.rec (motive := fun _ => RS → V) (fun p E => odef (T.getp p E.rg)) (fun v _ => v) (fun i E => nthV E.st i) x

noncomputable def V.onInt (v : V) : (IntKind → Int → Nat → Option V) → Option V :=
  V.rec (motive_1 := fun _ => (IntKind → Int → Nat → Option V) → Option V) (motive_2 := fun _ => PUnit)
    (fun _ => none)
    (fun a b c f => f a b c)
    (fun _ _ => none)
    (fun _ _ _ => none)
    (fun _ => none)
    (fun _ _ _ => none)
    (fun _ _ _ => none)
    (fun _ => none)
    (fun _ _ _ _ _ _ => none)
    (fun _ _ _ _ _ => none)
    (fun _ _ _ _ _ _ => none)
    (fun _ => none)
    (fun _ _ => none)
    (fun _ => none)
    (fun _ _ _ _ _ _ => none)
    (fun _ _ _ => none)
    (fun _ _ _ => none)
    (fun _ => none)
    (fun _ _ _ _ => none)
    ⟨⟩ (fun _ _ _ _ => ⟨⟩) v
noncomputable def V.onBool (v : V) : (Bool → Option V) → Option V :=
  V.rec (motive_1 := fun _ => (Bool → Option V) → Option V) (motive_2 := fun _ => PUnit)
    (fun _ => none)
    (fun _ _ _ _ => none)
    (fun a f => f a)
    (fun _ _ _ => none)
    (fun _ => none)
    (fun _ _ _ => none)
    (fun _ _ _ => none)
    (fun _ => none)
    (fun _ _ _ _ _ _ => none)
    (fun _ _ _ _ _ => none)
    (fun _ _ _ _ _ _ => none)
    (fun _ => none)
    (fun _ _ => none)
    (fun _ => none)
    (fun _ _ _ _ _ _ => none)
    (fun _ _ _ => none)
    (fun _ _ _ => none)
    (fun _ => none)
    (fun _ _ _ _ => none)
    ⟨⟩ (fun _ _ _ _ => ⟨⟩) v
noncomputable def V.onBoolP (v : V) : (Bool → Prop) → Prop :=
  V.rec (motive_1 := fun _ => (Bool → Prop) → Prop) (motive_2 := fun _ => PUnit)
    (fun _ => False)
    (fun _ _ _ _ => False)
    (fun a f => f a)
    (fun _ _ _ => False)
    (fun _ => False)
    (fun _ _ _ => False)
    (fun _ _ _ => False)
    (fun _ => False)
    (fun _ _ _ _ _ _ => False)
    (fun _ _ _ _ _ => False)
    (fun _ _ _ _ _ _ => False)
    (fun _ => False)
    (fun _ _ => False)
    (fun _ => False)
    (fun _ _ _ _ _ _ => False)
    (fun _ _ _ => False)
    (fun _ _ _ => False)
    (fun _ => False)
    (fun _ _ _ _ => False)
    ⟨⟩ (fun _ _ _ _ => ⟨⟩) v
noncomputable def V.onStr (v : V) : (Nat → Nat → Option V) → Option V :=
  V.rec (motive_1 := fun _ => (Nat → Nat → Option V) → Option V) (motive_2 := fun _ => PUnit)
    (fun _ => none)
    (fun _ _ _ _ => none)
    (fun _ _ => none)
    (fun a b f => f a b)
    (fun _ => none)
    (fun _ _ _ => none)
    (fun _ _ _ => none)
    (fun _ => none)
    (fun _ _ _ _ _ _ => none)
    (fun _ _ _ _ _ => none)
    (fun _ _ _ _ _ _ => none)
    (fun _ => none)
    (fun _ _ => none)
    (fun _ => none)
    (fun _ _ _ _ _ _ => none)
    (fun _ _ _ => none)
    (fun _ _ _ => none)
    (fun _ => none)
    (fun _ _ _ _ => none)
    ⟨⟩ (fun _ _ _ _ => ⟨⟩) v
noncomputable def V.onAgg (v : V) : (List V → Option V) → Option V :=
  V.rec (motive_1 := fun _ => (List V → Option V) → Option V) (motive_2 := fun _ => PUnit)
    (fun _ => none)
    (fun _ _ _ _ => none)
    (fun _ _ => none)
    (fun _ _ _ => none)
    (fun _ => none)
    (fun _ _ _ => none)
    (fun _ _ _ => none)
    (fun _ => none)
    (fun _ _ _ _ _ _ => none)
    (fun _ _ _ _ _ => none)
    (fun _ _ _ _ _ _ => none)
    (fun _ => none)
    (fun _ _ => none)
    (fun _ => none)
    (fun _ _ _ _ _ _ => none)
    (fun a _ f => f a)
    (fun _ _ _ => none)
    (fun _ => none)
    (fun _ _ _ _ => none)
    ⟨⟩ (fun _ _ _ _ => ⟨⟩) v
noncomputable def V.onTup (v : V) : (List V → Option V) → Option V :=
  V.rec (motive_1 := fun _ => (List V → Option V) → Option V) (motive_2 := fun _ => PUnit)
    (fun _ => none)
    (fun _ _ _ _ => none)
    (fun _ _ => none)
    (fun _ _ _ => none)
    (fun _ => none)
    (fun _ _ _ => none)
    (fun _ _ _ => none)
    (fun _ => none)
    (fun _ _ _ _ _ _ => none)
    (fun _ _ _ _ _ => none)
    (fun _ _ _ _ _ _ => none)
    (fun _ => none)
    (fun _ _ => none)
    (fun _ => none)
    (fun _ _ _ _ _ _ => none)
    (fun _ _ _ => none)
    (fun a _ f => f a)
    (fun _ => none)
    (fun _ _ _ _ => none)
    ⟨⟩ (fun _ _ _ _ => ⟨⟩) v
noncomputable def V.onPtr (v : V) : (Nat → Nat → Option V) → (Nat → Nat → Option V) → Option V :=
  V.rec (motive_1 := fun _ => (Nat → Nat → Option V) → (Nat → Nat → Option V) → Option V) (motive_2 := fun _ => PUnit)
    (fun _ _ => none)
    (fun _ _ _ _ _ => none)
    (fun _ _ _ => none)
    (fun _ _ _ _ => none)
    (fun _ _ => none)
    (fun a b f _ => f a b)
    (fun a b _ g => g a b)
    (fun _ _ => none)
    (fun _ _ _ _ _ _ _ => none)
    (fun _ _ _ _ _ _ => none)
    (fun _ _ _ _ _ _ _ => none)
    (fun _ _ => none)
    (fun _ _ _ => none)
    (fun _ _ => none)
    (fun _ _ _ _ _ _ _ => none)
    (fun _ _ _ _ => none)
    (fun _ _ _ _ => none)
    (fun _ _ => none)
    (fun _ _ _ _ _ => none)
    ⟨⟩ (fun _ _ _ _ => ⟨⟩) v
noncomputable def V.onMapL (v : V) : (Option V) → (Nat → Option V) → Option V :=
  V.rec (motive_1 := fun _ => (Option V) → (Nat → Option V) → Option V) (motive_2 := fun _ => PUnit)
    (fun _ _ => none)
    (fun _ _ _ _ _ => none)
    (fun _ _ _ => none)
    (fun _ _ _ _ => none)
    (fun _ _ => none)
    (fun _ _ _ _ => none)
    (fun _ _ _ _ => none)
    (fun _ _ => none)
    (fun _ _ _ _ _ _ _ => none)
    (fun _ _ _ _ _ _ => none)
    (fun _ _ _ _ _ _ _ => none)
    (fun z _ => z)
    (fun a _ f => f a)
    (fun _ _ => none)
    (fun _ _ _ _ _ _ _ => none)
    (fun _ _ _ _ => none)
    (fun _ _ _ _ => none)
    (fun _ _ => none)
    (fun _ _ _ _ _ => none)
    ⟨⟩ (fun _ _ _ _ => ⟨⟩) v
noncomputable def V.onSl (v : V) : (Option V) → (Nat → Nat → Nat → Nat → Nat → Option V) → (Nat → Nat → Nat → Nat → Option V) → (Nat → Nat → Nat → Nat → Nat → Option V) → Option V :=
  V.rec (motive_1 := fun _ => (Option V) → (Nat → Nat → Nat → Nat → Nat → Option V) → (Nat → Nat → Nat → Nat → Option V) → (Nat → Nat → Nat → Nat → Nat → Option V) → Option V) (motive_2 := fun _ => PUnit)
    (fun _ _ _ _ => none)
    (fun _ _ _ _ _ _ _ => none)
    (fun _ _ _ _ _ => none)
    (fun _ _ _ _ _ _ => none)
    (fun _ _ _ _ => none)
    (fun _ _ _ _ _ _ => none)
    (fun _ _ _ _ _ _ => none)
    (fun z _ _ _ => z)
    (fun a b c d e _ f _ _ => f a b c d e)
    (fun a b c d _ _ g _ => g a b c d)
    (fun a b c d e _ _ _ h => h a b c d e)
    (fun _ _ _ _ => none)
    (fun _ _ _ _ _ => none)
    (fun _ _ _ _ => none)
    (fun _ _ _ _ _ _ _ _ _ => none)
    (fun _ _ _ _ _ _ => none)
    (fun _ _ _ _ _ _ => none)
    (fun _ _ _ _ => none)
    (fun _ _ _ _ _ _ _ => none)
    ⟨⟩ (fun _ _ _ _ => ⟨⟩) v
noncomputable def vcells (v : V) : List V :=
  V.rec (motive_1 := fun _ => List V) (motive_2 := fun _ => PUnit)
    ([v])
    (fun _ _ _ => [v])
    (fun _ => [v])
    (fun _ _ => [v])
    ([v])
    (fun _ _ => [v])
    (fun _ _ => [v])
    ([v])
    (fun _ _ _ _ _ => [v])
    (fun _ _ _ _ => [v])
    (fun _ _ _ _ _ => [v])
    ([v])
    (fun _ => [v])
    ([v])
    (fun _ _ _ _ _ => [v])
    (fun a _ => a)
    (fun _ _ => [v])
    ([v])
    (fun _ _ _ => [v])
    ⟨⟩ (fun _ _ _ _ => ⟨⟩) v
noncomputable def isStr (v : V) : Bool :=
  V.rec (motive_1 := fun _ => Bool) (motive_2 := fun _ => PUnit)
    (false)
    (fun _ _ _ => false)
    (fun _ => false)
    (fun _ _ => true)
    (false)
    (fun _ _ => false)
    (fun _ _ => false)
    (false)
    (fun _ _ _ _ _ => false)
    (fun _ _ _ _ => false)
    (fun _ _ _ _ _ => false)
    (false)
    (fun _ => false)
    (false)
    (fun _ _ _ _ _ => false)
    (fun _ _ => false)
    (fun _ _ => false)
    (false)
    (fun _ _ _ => false)
    ⟨⟩ (fun _ _ _ _ => ⟨⟩) v
noncomputable def lenV (v : V) : Option V :=
  V.rec (motive_1 := fun _ => Option V) (motive_2 := fun _ => PUnit)
    (none)
    (fun _ _ _ => none)
    (fun _ => none)
    (fun _ _ => none)
    (none)
    (fun _ _ => none)
    (fun _ _ => none)
    (some (.int .i64 (.ofNat 0) 0))
    (fun _ _ c _ _ => some (.int .i64 (.ofNat c) 0))
    (fun _ _ c _ => some (.int .i64 (.ofNat c) 0))
    (fun _ _ c _ _ => some (.int .i64 (.ofNat c) 0))
    (none)
    (fun _ => none)
    (none)
    (fun _ _ _ _ _ => none)
    (fun _ _ => none)
    (fun _ _ => none)
    (none)
    (fun _ _ _ => none)
    ⟨⟩ (fun _ _ _ _ => ⟨⟩) v
noncomputable def nilckV (v : V) : Option V :=
  V.rec (motive_1 := fun _ => Option V) (motive_2 := fun _ => PUnit)
    (none)
    (fun _ _ _ => none)
    (fun _ => none)
    (fun _ _ => none)
    (none)
    (fun a b => some (.ptr a b))
    (fun a b => some (.gptr a b))
    (none)
    (fun _ _ _ _ _ => none)
    (fun _ _ _ _ => none)
    (fun _ _ _ _ _ => none)
    (none)
    (fun _ => none)
    (none)
    (fun a b c _ _ => some (.fn a b c))
    (fun _ _ => none)
    (fun _ _ => none)
    (none)
    (fun _ _ _ => none)
    ⟨⟩ (fun _ _ _ _ => ⟨⟩) v

/- numbers -/
noncomputable def forceIV (n : Int) : (Int → Option V) → Option V := fun f => f n
noncomputable def forceN (n : Nat) : (Nat → Option V) → Option V :=
  Nat.rec (motive := fun _ => (Nat → Option V) → Option V) (fun f => f 0) (fun k _ f => f (Nat.succ k)) n
noncomputable def forceP (n : Nat) : (Nat → Prop) → Prop :=
  Nat.rec (motive := fun _ => (Nat → Prop) → Prop) (fun f => f 0) (fun k _ f => f (Nat.succ k)) n
noncomputable def inrP (k : IntKind) : Nat → Bool :=
  IntKind.rec (motive := fun _ => Nat → Bool) (fun m => Nat.blt m 128) (fun m => Nat.blt m 32768) (fun m => Nat.blt m 2147483648) (fun m => Nat.blt m 9223372036854775808)
    (fun m => Nat.blt m 256) (fun m => Nat.blt m 65536) (fun m => Nat.blt m 4294967296) (fun m => Nat.blt m 18446744073709551616) k
noncomputable def inrM (k : IntKind) : Nat → Bool :=
  IntKind.rec (motive := fun _ => Nat → Bool) (fun m => Nat.blt m 128) (fun m => Nat.blt m 32768) (fun m => Nat.blt m 2147483648) (fun m => Nat.blt m 9223372036854775808)
    (fun _ => false) (fun _ => false) (fun _ => false) (fun _ => false) k
noncomputable def inr (k : IntKind) (n : Int) : Bool := Int.rec (motive := fun _ => IntKind → Bool) (fun m k => inrP k m) (fun m k => inrM k m) n k
noncomputable def wrapI (k : IntKind) (n : Int) : Int := Bool.rec (k.wrap n) n (inr k n)
noncomputable def mkI0 (k : IntKind) (n : Int) : Option V := forceIV (wrapI k n) fun m => some (.int k m 0)
noncomputable def mkI (k : IntKind) (n : Int) (s : Nat) : Option V :=
  Nat.rec (motive := fun _ => IntKind → Int → Option V) mkI0 (fun _ _ k n => some (.int k (k.wrap n) 1)) s k n
noncomputable def mkN (k : IntKind) (n : Int) (s : Nat) : Option V :=
  Nat.rec (motive := fun _ => IntKind → Int → Option V) (fun k n => forceIV n fun m => some (.int k m 0)) (fun _ _ k n => some (.int k n 1)) s k n
noncomputable def iaddP (a : Nat) (b : Int) : Int := Int.rec (motive := fun _ => Nat → Int) (fun n m => .ofNat (Nat.add m n)) (fun n m => Int.subNatNat m (Nat.succ n)) b a
noncomputable def iaddM (a : Nat) (b : Int) : Int := Int.rec (motive := fun _ => Nat → Int) (fun n m => Int.subNatNat n (Nat.succ m)) (fun n m => .negSucc (Nat.succ (Nat.add m n))) b a
noncomputable def iadd (a b : Int) : Int := Int.rec (motive := fun _ => Int → Int) iaddP iaddM a b
noncomputable def ile (a b : Int) : Bool := Int.rec (motive := fun _ => Int → Bool) (fun m b => Int.rec (motive := fun _ => Nat → Bool) (fun n m => Nat.ble m n) (fun _ _ => false) b m)
  (fun m b => Int.rec (motive := fun _ => Nat → Bool) (fun _ _ => true) (fun n m => Nat.ble n m) b m) a b
noncomputable def ilt (a b : Int) : Bool := Int.rec (motive := fun _ => Int → Bool) (fun m b => Int.rec (motive := fun _ => Nat → Bool) (fun n m => Nat.blt m n) (fun _ _ => false) b m)
  (fun m b => Int.rec (motive := fun _ => Nat → Bool) (fun _ _ => true) (fun n m => Nat.blt n m) b m) a b
noncomputable def ieq (a b : Int) : Bool := Int.rec (motive := fun _ => Int → Bool) (fun m b => Int.rec (motive := fun _ => Nat → Bool) (fun n m => Nat.beq m n) (fun _ _ => false) b m)
  (fun m b => Int.rec (motive := fun _ => Nat → Bool) (fun _ _ => false) (fun n m => Nat.beq n m) b m) a b
noncomputable def kno (a : IntKind) : Nat := IntKind.rec 0 1 2 3 4 5 6 7 a
noncomputable def keq (a b : IntKind) : Bool := Nat.beq (kno a) (kno b)
noncomputable def bnot (b : Bool) : Bool := Bool.rec true false b
noncomputable def band (a b : Bool) : Bool := Bool.rec (motive := fun _ => Bool → Bool) (fun _ => false) (fun b => b) a b
noncomputable def beqb (a b : Bool) : Bool := Bool.rec (motive := fun _ => Bool → Bool) bnot (fun b => b) a b
noncomputable def mkB (b : Bool) : Option V := Bool.rec (some (.bool false)) (some (.bool true)) b
noncomputable def guardO (b : Bool) : Option V → Option V := Bool.rec (motive := fun _ => Option V → Option V) (fun _ => none) (fun o => o) b
noncomputable def selO (b : Bool) (x y : Option V) : Option V := Bool.rec (motive := fun _ => Option V → Option V → Option V) (fun _ y => y) (fun x _ => x) b x y

/- strings -/
noncomputable def sget (code i : Nat) : Nat := Nat.mod (Nat.div code (Nat.pow 256 i)) 256
noncomputable def ssub (code l h : Nat) : Nat := Nat.mod (Nat.div code (Nat.pow 256 l)) (Nat.pow 256 (Nat.sub h l))
noncomputable def scat (l1 c1 c2 : Nat) : Nat := Nat.add c1 (Nat.mul (Nat.pow 256 l1) c2)
/- is one string below another one? by fuel -/
noncomputable def sltF (f : Nat) : Nat → Nat → Nat → Nat → Bool :=
  Nat.rec (motive := fun _ => Nat → Nat → Nat → Nat → Bool) (fun _ _ _ _ => false)
    (fun _ g l1 c1 l2 c2 => Nat.rec (motive := fun _ => Bool) false (fun l2' _ => Nat.rec (motive := fun _ => Bool) true (fun l1' _ =>
      Bool.rec (Nat.blt (Nat.mod c1 256) (Nat.mod c2 256)) (g l1' (Nat.div c1 256) l2' (Nat.div c2 256)) (Nat.beq (Nat.mod c1 256) (Nat.mod c2 256))) l1) l2) f
noncomputable def slt (l1 c1 l2 c2 : Nat) : Bool := sltF (Nat.succ l2) l1 c1 l2 c2

/- lists -/
noncomputable def nth {α : Type} (l : List α) : Nat → Option α :=
  List.rec (motive := fun _ => Nat → Option α) (fun _ => none) (fun x _ g i => Nat.rec (motive := fun _ => Option α) (some x) (fun i _ => g i) i) l
noncomputable def setnth {α : Type} (x : α) (l : List α) : Nat → List α :=
  List.rec (motive := fun _ => Nat → List α) (fun _ => []) (fun y ys g i => Nat.rec (motive := fun _ => List α) (x :: ys) (fun i _ => y :: g i) i) l
noncomputable def len {α : Type} (l : List α) : Nat := List.rec (motive := fun _ => Nat) 0 (fun _ _ n => Nat.succ n) l
noncomputable def cat {α : Type} (a b : List α) : List α := List.rec (motive := fun _ => List α → List α) (fun b => b) (fun x _ g b => x :: g b) a b
noncomputable def takeL {α : Type} (n : Nat) : List α → List α :=
  Nat.rec (motive := fun _ => List α → List α) (fun _ => []) (fun _ g l => List.rec (motive := fun _ => List α) [] (fun x xs _ => x :: g xs) l) n
noncomputable def dropL {α : Type} (n : Nat) : List α → List α :=
  Nat.rec (motive := fun _ => List α → List α) (fun l => l) (fun _ g l => List.rec (motive := fun _ => List α) [] (fun _ xs _ => g xs) l) n
noncomputable def mapX (l : List X) : RS → List V := List.rec (motive := fun _ => RS → List V) (fun _ => []) (fun x _ g R => x.ev R :: g R) l
/- a list over the front of another one from a place on -/
noncomputable def putL (new : List V) (i : Nat) (l : List V) : List V := cat (takeL i l) (cat new (dropL (Nat.add i (len new)) l))

abbrev LV := List V
noncomputable def obind (o : Option V) (f : V → Option V) : Option V := Option.rec (motive := fun _ => (V → Option V) → Option V) (fun _ => none) (fun v f => f v) o f
noncomputable def lbind (o : Option LV) (f : LV → Option V) : Option V := Option.rec (motive := fun _ => (LV → Option V) → Option V) (fun _ => none) (fun v f => f v) o f
noncomputable def onO {α : Type} (o : Option α) (f : α → Prop) : Prop := Option.rec (motive := fun _ => (α → Prop) → Prop) (fun _ => False) (fun v f => f v) o f
noncomputable def onV (o : Option V) (f : V → Prop) : Prop := Option.rec (motive := fun _ => (V → Prop) → Prop) (fun _ => False) (fun v f => f v) o f
noncomputable def gbind {α β : Type} (o : Option α) (f : α → Option β) : Option β := Option.rec (motive := fun _ => (α → Option β) → Option β) (fun _ => none) (fun v f => f v) o f

/- memory: loads of n cells -/
noncomputable def ldC (esz off n : Nat) (L : LV) : Option LV :=
  Bool.rec (motive := fun _ => Option LV)
      (Bool.rec none (some (takeL n (dropL (Nat.mod off esz) L))) (Nat.ble (Nat.add (Nat.mod off esz) n) esz))
      (some L) (band (Nat.beq n esz) (Nat.beq (Nat.mod off esz) 0))
noncomputable def ldB (esz cnt : Nat) (c : T LV) (off n : Nat) : Option LV :=
  gbind (Bool.rec none (T.get c (Nat.div off esz)) (Nat.blt (Nat.div off esz) cnt)) (ldC esz off n)
noncomputable def Blk.ld (b : Blk) : Nat → Nat → Option LV :=
  Blk.rec (motive := fun _ => Nat → Nat → Option LV) ldB (fun _ _ _ _ => none) (fun _ _ => none) (fun _ _ _ _ _ _ _ => none) (fun _ _ _ => none) b
noncomputable def ldH (H : Heap) (id off n : Nat) : Option LV := Option.rec (motive := fun _ => Nat → Nat → Option LV) (fun _ _ => none) Blk.ld (T.get H id) off n
noncomputable def ldP (v : V) : (Roms) → (Heap) → (Nat) → Option LV :=
  V.rec (motive_1 := fun _ => (Roms) → (Heap) → (Nat) → Option LV) (motive_2 := fun _ => PUnit)
    (fun _ _ _ => none)
    (fun _ _ _ _ _ _ => none)
    (fun _ _ _ _ => none)
    (fun _ _ _ _ _ => none)
    (fun _ _ _ => none)
    (fun a b _ H n => ldH H a b n)
    (fun a b G _ n => G a b n)
    (fun _ _ _ => none)
    (fun _ _ _ _ _ _ _ _ => none)
    (fun _ _ _ _ _ _ _ => none)
    (fun _ _ _ _ _ _ _ _ => none)
    (fun _ _ _ => none)
    (fun _ _ _ _ => none)
    (fun _ _ _ => none)
    (fun _ _ _ _ _ _ _ _ => none)
    (fun _ _ _ _ _ => none)
    (fun _ _ _ _ _ => none)
    (fun _ _ _ => none)
    (fun _ _ _ _ _ _ => none)
    ⟨⟩ (fun _ _ _ _ => ⟨⟩) v

noncomputable def stC (new : LV) (esz cnt : Nat) (c : T LV) (off n : Nat) (L : LV) : Option Blk :=
  Bool.rec (motive := fun _ => Option Blk)
      (Bool.rec none (some (.arr esz cnt (T.set c (Nat.div off esz) (putL new (Nat.mod off esz) L)))) (Nat.ble (Nat.add (Nat.mod off esz) n) esz))
      (some (.arr esz cnt (T.set c (Nat.div off esz) new))) (band (Nat.beq n esz) (Nat.beq (Nat.mod off esz) 0))
noncomputable def stB (esz cnt : Nat) (c : T LV) (off n : Nat) (new : LV) : Option Blk :=
  gbind (Bool.rec none (T.get c (Nat.div off esz)) (Nat.blt (Nat.div off esz) cnt)) (stC new esz cnt c off n)
noncomputable def Blk.st (b : Blk) : Nat → Nat → LV → Option Blk :=
  Blk.rec (motive := fun _ => Nat → Nat → LV → Option Blk) stB (fun _ _ _ _ _ => none) (fun _ _ _ => none) (fun _ _ _ _ _ _ _ _ => none) (fun _ _ _ _ => none) b
noncomputable def stH (H : Heap) (id off n : Nat) (new : LV) : Option Heap :=
  gbind (Option.rec (motive := fun _ => Nat → Nat → LV → Option Blk) (fun _ _ _ => none) Blk.st (T.get H id) off n new) fun b => some (T.set H id b)
noncomputable def stP (v : V) : (Heap) → (Nat) → (LV) → Option Heap :=
  V.rec (motive_1 := fun _ => (Heap) → (Nat) → (LV) → Option Heap) (motive_2 := fun _ => PUnit)
    (fun _ _ _ => none)
    (fun _ _ _ _ _ _ => none)
    (fun _ _ _ _ => none)
    (fun _ _ _ _ _ => none)
    (fun _ _ _ => none)
    (fun a b H n new => stH H a b n new)
    (fun _ _ _ _ _ => none)
    (fun _ _ _ => none)
    (fun _ _ _ _ _ _ _ _ => none)
    (fun _ _ _ _ _ _ _ => none)
    (fun _ _ _ _ _ _ _ _ => none)
    (fun _ _ _ => none)
    (fun _ _ _ _ => none)
    (fun _ _ _ => none)
    (fun _ _ _ _ _ _ _ _ => none)
    (fun _ _ _ _ _ => none)
    (fun _ _ _ _ _ => none)
    (fun _ _ _ => none)
    (fun _ _ _ _ _ _ => none)
    ⟨⟩ (fun _ _ _ _ => ⟨⟩) v
noncomputable def eqInt (v : V) : (IntKind) → (Int) → (Nat) → Option Bool :=
  V.rec (motive_1 := fun _ => (IntKind) → (Int) → (Nat) → Option Bool) (motive_2 := fun _ => PUnit)
    (fun _ _ _ => none)
    (fun a b c k n s => Bool.rec (motive := fun _ => Option Bool) none (some (ieq n b)) (band (keq k a) (Nat.beq (Nat.add s c) 0)))
    (fun _ _ _ _ => none)
    (fun _ _ _ _ _ => none)
    (fun _ _ _ => none)
    (fun _ _ _ _ _ => none)
    (fun _ _ _ _ _ => none)
    (fun _ _ _ => none)
    (fun _ _ _ _ _ _ _ _ => none)
    (fun _ _ _ _ _ _ _ => none)
    (fun _ _ _ _ _ _ _ _ => none)
    (fun _ _ _ => none)
    (fun _ _ _ _ => none)
    (fun _ _ _ => none)
    (fun _ _ _ _ _ _ _ _ => none)
    (fun _ _ _ _ _ => none)
    (fun _ _ _ _ _ => none)
    (fun _ _ _ => none)
    (fun _ _ _ _ _ _ => none)
    ⟨⟩ (fun _ _ _ _ => ⟨⟩) v
noncomputable def eqBool (v : V) : (Bool) → Option Bool :=
  V.rec (motive_1 := fun _ => (Bool) → Option Bool) (motive_2 := fun _ => PUnit)
    (fun _ => none)
    (fun _ _ _ _ => none)
    (fun a x => some (beqb x a))
    (fun _ _ _ => none)
    (fun _ => none)
    (fun _ _ _ => none)
    (fun _ _ _ => none)
    (fun _ => none)
    (fun _ _ _ _ _ _ => none)
    (fun _ _ _ _ _ => none)
    (fun _ _ _ _ _ _ => none)
    (fun _ => none)
    (fun _ _ => none)
    (fun _ => none)
    (fun _ _ _ _ _ _ => none)
    (fun _ _ _ => none)
    (fun _ _ _ => none)
    (fun _ => none)
    (fun _ _ _ _ => none)
    ⟨⟩ (fun _ _ _ _ => ⟨⟩) v
noncomputable def eqStr (v : V) : (Nat) → (Nat) → Option Bool :=
  V.rec (motive_1 := fun _ => (Nat) → (Nat) → Option Bool) (motive_2 := fun _ => PUnit)
    (fun _ _ => none)
    (fun _ _ _ _ _ => none)
    (fun _ _ _ => none)
    (fun a b l d => some (band (Nat.beq l a) (Nat.beq d b)))
    (fun _ _ => none)
    (fun _ _ _ _ => none)
    (fun _ _ _ _ => none)
    (fun _ _ => none)
    (fun _ _ _ _ _ _ _ => none)
    (fun _ _ _ _ _ _ => none)
    (fun _ _ _ _ _ _ _ => none)
    (fun _ _ => none)
    (fun _ _ _ => none)
    (fun _ _ => none)
    (fun _ _ _ _ _ _ _ => none)
    (fun _ _ _ _ => none)
    (fun _ _ _ _ => none)
    (fun _ _ => none)
    (fun _ _ _ _ _ => none)
    ⟨⟩ (fun _ _ _ _ => ⟨⟩) v
noncomputable def eqNilp (v : V) : Option Bool :=
  V.rec (motive_1 := fun _ => Option Bool) (motive_2 := fun _ => PUnit)
    (none)
    (fun _ _ _ => none)
    (fun _ => none)
    (fun _ _ => none)
    (some true)
    (fun _ _ => some false)
    (fun _ _ => some false)
    (none)
    (fun _ _ _ _ _ => none)
    (fun _ _ _ _ => none)
    (fun _ _ _ _ _ => none)
    (none)
    (fun _ => none)
    (none)
    (fun _ _ _ _ _ => none)
    (fun _ _ => none)
    (fun _ _ => none)
    (none)
    (fun _ _ _ => none)
    ⟨⟩ (fun _ _ _ _ => ⟨⟩) v
noncomputable def eqPtr (v : V) : (Nat) → (Nat) → Option Bool :=
  V.rec (motive_1 := fun _ => (Nat) → (Nat) → Option Bool) (motive_2 := fun _ => PUnit)
    (fun _ _ => none)
    (fun _ _ _ _ _ => none)
    (fun _ _ _ => none)
    (fun _ _ _ _ => none)
    (fun _ _ => some false)
    (fun a b i o => Bool.rec none (some (Nat.beq o b)) (Nat.beq i a))
    (fun _ _ _ _ => none)
    (fun _ _ => none)
    (fun _ _ _ _ _ _ _ => none)
    (fun _ _ _ _ _ _ => none)
    (fun _ _ _ _ _ _ _ => none)
    (fun _ _ => none)
    (fun _ _ _ => none)
    (fun _ _ => none)
    (fun _ _ _ _ _ _ _ => none)
    (fun _ _ _ _ => none)
    (fun _ _ _ _ => none)
    (fun _ _ => none)
    (fun _ _ _ _ _ => none)
    ⟨⟩ (fun _ _ _ _ => ⟨⟩) v
noncomputable def eqGptr (v : V) : Option Bool :=
  V.rec (motive_1 := fun _ => Option Bool) (motive_2 := fun _ => PUnit)
    (none)
    (fun _ _ _ => none)
    (fun _ => none)
    (fun _ _ => none)
    (some false)
    (fun _ _ => none)
    (fun _ _ => none)
    (none)
    (fun _ _ _ _ _ => none)
    (fun _ _ _ _ => none)
    (fun _ _ _ _ _ => none)
    (none)
    (fun _ => none)
    (none)
    (fun _ _ _ _ _ => none)
    (fun _ _ => none)
    (fun _ _ => none)
    (none)
    (fun _ _ _ => none)
    ⟨⟩ (fun _ _ _ _ => ⟨⟩) v
noncomputable def kInt (v : V) : (V) → Option Bool :=
  V.rec (motive_1 := fun _ => (V) → Option Bool) (motive_2 := fun _ => PUnit)
    (fun _ => none)
    (fun a b c y => eqInt y a b c)
    (fun _ _ => none)
    (fun _ _ _ => none)
    (fun _ => none)
    (fun _ _ _ => none)
    (fun _ _ _ => none)
    (fun _ => none)
    (fun _ _ _ _ _ _ => none)
    (fun _ _ _ _ _ => none)
    (fun _ _ _ _ _ _ => none)
    (fun _ => none)
    (fun _ _ => none)
    (fun _ => none)
    (fun _ _ _ _ _ _ => none)
    (fun _ _ _ => none)
    (fun _ _ _ => none)
    (fun _ => none)
    (fun _ _ _ _ => none)
    ⟨⟩ (fun _ _ _ _ => ⟨⟩) v
noncomputable def kStr (v : V) : (V) → Option Bool :=
  V.rec (motive_1 := fun _ => (V) → Option Bool) (motive_2 := fun _ => PUnit)
    (fun _ => none)
    (fun _ _ _ _ => none)
    (fun _ _ => none)
    (fun a b y => eqStr y a b)
    (fun _ => none)
    (fun _ _ _ => none)
    (fun _ _ _ => none)
    (fun _ => none)
    (fun _ _ _ _ _ _ => none)
    (fun _ _ _ _ _ => none)
    (fun _ _ _ _ _ _ => none)
    (fun _ => none)
    (fun _ _ => none)
    (fun _ => none)
    (fun _ _ _ _ _ _ => none)
    (fun _ _ _ => none)
    (fun _ _ _ => none)
    (fun _ => none)
    (fun _ _ _ _ => none)
    ⟨⟩ (fun _ _ _ _ => ⟨⟩) v
noncomputable def kBool (v : V) : (V) → Option Bool :=
  V.rec (motive_1 := fun _ => (V) → Option Bool) (motive_2 := fun _ => PUnit)
    (fun _ => none)
    (fun _ _ _ _ => none)
    (fun a y => eqBool y a)
    (fun _ _ _ => none)
    (fun _ => none)
    (fun _ _ _ => none)
    (fun _ _ _ => none)
    (fun _ => none)
    (fun _ _ _ _ _ _ => none)
    (fun _ _ _ _ _ => none)
    (fun _ _ _ _ _ _ => none)
    (fun _ => none)
    (fun _ _ => none)
    (fun _ => none)
    (fun _ _ _ _ _ _ => none)
    (fun _ _ _ => none)
    (fun _ _ _ => none)
    (fun _ => none)
    (fun _ _ _ _ => none)
    ⟨⟩ (fun _ _ _ _ => ⟨⟩) v
noncomputable def kPtr (v : V) : (V) → Option Bool :=
  V.rec (motive_1 := fun _ => (V) → Option Bool) (motive_2 := fun _ => PUnit)
    (fun _ => none)
    (fun _ _ _ _ => none)
    (fun _ _ => none)
    (fun _ _ _ => none)
    (fun y => eqNilp y)
    (fun a b y => eqPtr y a b)
    (fun _ _ y => eqGptr y)
    (fun _ => none)
    (fun _ _ _ _ _ _ => none)
    (fun _ _ _ _ _ => none)
    (fun _ _ _ _ _ _ => none)
    (fun _ => none)
    (fun _ _ => none)
    (fun _ => none)
    (fun _ _ _ _ _ _ => none)
    (fun _ _ _ => none)
    (fun _ _ _ => none)
    (fun _ => none)
    (fun _ _ _ _ => none)
    ⟨⟩ (fun _ _ _ _ => ⟨⟩) v
noncomputable def isNils (v : V) : Option Bool :=
  V.rec (motive_1 := fun _ => Option Bool) (motive_2 := fun _ => PUnit)
    (none)
    (fun _ _ _ => none)
    (fun _ => none)
    (fun _ _ => none)
    (none)
    (fun _ _ => none)
    (fun _ _ => none)
    (some true)
    (fun _ _ _ _ _ => some false)
    (fun _ _ _ _ => some false)
    (fun _ _ _ _ _ => some false)
    (none)
    (fun _ => none)
    (none)
    (fun _ _ _ _ _ => none)
    (fun _ _ => none)
    (fun _ _ => none)
    (none)
    (fun _ _ _ => none)
    ⟨⟩ (fun _ _ _ _ => ⟨⟩) v
noncomputable def isNils0 (v : V) : Option Bool :=
  V.rec (motive_1 := fun _ => Option Bool) (motive_2 := fun _ => PUnit)
    (none)
    (fun _ _ _ => none)
    (fun _ => none)
    (fun _ _ => none)
    (none)
    (fun _ _ => none)
    (fun _ _ => none)
    (some false)
    (fun _ _ _ _ _ => none)
    (fun _ _ _ _ => none)
    (fun _ _ _ _ _ => none)
    (none)
    (fun _ => none)
    (none)
    (fun _ _ _ _ _ => none)
    (fun _ _ => none)
    (fun _ _ => none)
    (none)
    (fun _ _ _ => none)
    ⟨⟩ (fun _ _ _ _ => ⟨⟩) v
noncomputable def isNilf (v : V) : Option Bool :=
  V.rec (motive_1 := fun _ => Option Bool) (motive_2 := fun _ => PUnit)
    (none)
    (fun _ _ _ => none)
    (fun _ => none)
    (fun _ _ => none)
    (none)
    (fun _ _ => none)
    (fun _ _ => none)
    (none)
    (fun _ _ _ _ _ => none)
    (fun _ _ _ _ => none)
    (fun _ _ _ _ _ => none)
    (none)
    (fun _ => none)
    (some true)
    (fun _ _ _ _ _ => some false)
    (fun _ _ => none)
    (fun _ _ => none)
    (none)
    (fun _ _ _ => none)
    ⟨⟩ (fun _ _ _ _ => ⟨⟩) v
noncomputable def isNilf0 (v : V) : Option Bool :=
  V.rec (motive_1 := fun _ => Option Bool) (motive_2 := fun _ => PUnit)
    (none)
    (fun _ _ _ => none)
    (fun _ => none)
    (fun _ _ => none)
    (none)
    (fun _ _ => none)
    (fun _ _ => none)
    (none)
    (fun _ _ _ _ _ => none)
    (fun _ _ _ _ => none)
    (fun _ _ _ _ _ => none)
    (none)
    (fun _ => none)
    (some false)
    (fun _ _ _ _ _ => none)
    (fun _ _ => none)
    (fun _ _ => none)
    (none)
    (fun _ _ _ => none)
    ⟨⟩ (fun _ _ _ _ => ⟨⟩) v
noncomputable def isNilm (v : V) : Option Bool :=
  V.rec (motive_1 := fun _ => Option Bool) (motive_2 := fun _ => PUnit)
    (none)
    (fun _ _ _ => none)
    (fun _ => none)
    (fun _ _ => none)
    (none)
    (fun _ _ => none)
    (fun _ _ => none)
    (none)
    (fun _ _ _ _ _ => none)
    (fun _ _ _ _ => none)
    (fun _ _ _ _ _ => none)
    (some true)
    (fun _ => some false)
    (none)
    (fun _ _ _ _ _ => none)
    (fun _ _ => none)
    (fun _ _ => none)
    (none)
    (fun _ _ _ => none)
    ⟨⟩ (fun _ _ _ _ => ⟨⟩) v
noncomputable def isNilm0 (v : V) : Option Bool :=
  V.rec (motive_1 := fun _ => Option Bool) (motive_2 := fun _ => PUnit)
    (none)
    (fun _ _ _ => none)
    (fun _ => none)
    (fun _ _ => none)
    (none)
    (fun _ _ => none)
    (fun _ _ => none)
    (none)
    (fun _ _ _ _ _ => none)
    (fun _ _ _ _ => none)
    (fun _ _ _ _ _ => none)
    (some false)
    (fun _ => none)
    (none)
    (fun _ _ _ _ _ => none)
    (fun _ _ => none)
    (fun _ _ => none)
    (none)
    (fun _ _ _ => none)
    ⟨⟩ (fun _ _ _ _ => ⟨⟩) v
noncomputable def kSl (v : V) : (V) → Option Bool :=
  V.rec (motive_1 := fun _ => (V) → Option Bool) (motive_2 := fun _ => PUnit)
    (fun _ => none)
    (fun _ _ _ _ => none)
    (fun _ _ => none)
    (fun _ _ _ => none)
    (fun _ => none)
    (fun _ _ _ => none)
    (fun _ _ _ => none)
    (fun y => isNils y)
    (fun _ _ _ _ _ y => isNils0 y)
    (fun _ _ _ _ y => isNils0 y)
    (fun _ _ _ _ _ y => isNils0 y)
    (fun _ => none)
    (fun _ _ => none)
    (fun _ => none)
    (fun _ _ _ _ _ _ => none)
    (fun _ _ _ => none)
    (fun _ _ _ => none)
    (fun _ => none)
    (fun _ _ _ _ => none)
    ⟨⟩ (fun _ _ _ _ => ⟨⟩) v
noncomputable def kFn (v : V) : (V) → Option Bool :=
  V.rec (motive_1 := fun _ => (V) → Option Bool) (motive_2 := fun _ => PUnit)
    (fun _ => none)
    (fun _ _ _ _ => none)
    (fun _ _ => none)
    (fun _ _ _ => none)
    (fun _ => none)
    (fun _ _ _ => none)
    (fun _ _ _ => none)
    (fun _ => none)
    (fun _ _ _ _ _ _ => none)
    (fun _ _ _ _ _ => none)
    (fun _ _ _ _ _ _ => none)
    (fun _ => none)
    (fun _ _ => none)
    (fun y => isNilf y)
    (fun _ _ _ _ _ y => isNilf0 y)
    (fun _ _ _ => none)
    (fun _ _ _ => none)
    (fun _ => none)
    (fun _ _ _ _ => none)
    ⟨⟩ (fun _ _ _ _ => ⟨⟩) v
noncomputable def kMap (v : V) : (V) → Option Bool :=
  V.rec (motive_1 := fun _ => (V) → Option Bool) (motive_2 := fun _ => PUnit)
    (fun _ => none)
    (fun _ _ _ _ => none)
    (fun _ _ => none)
    (fun _ _ _ => none)
    (fun _ => none)
    (fun _ _ _ => none)
    (fun _ _ _ => none)
    (fun _ => none)
    (fun _ _ _ _ _ _ => none)
    (fun _ _ _ _ _ => none)
    (fun _ _ _ _ _ _ => none)
    (fun y => isNilm y)
    (fun _ y => isNilm0 y)
    (fun _ => none)
    (fun _ _ _ _ _ _ => none)
    (fun _ _ _ => none)
    (fun _ _ _ => none)
    (fun _ => none)
    (fun _ _ _ _ => none)
    ⟨⟩ (fun _ _ _ _ => ⟨⟩) v

noncomputable def bbind (o : Option Bool) (f : Bool → Option Bool) : Option Bool := Option.rec (motive := fun _ => (Bool → Option Bool) → Option Bool) (fun _ => none) (fun v f => f v) o f
/- kinds of cells that may be compared -/
inductive CK where
  | int | str | bool | ptr
noncomputable def CK.eq (k : CK) : V → V → Option Bool := CK.rec (motive := fun _ => V → V → Option Bool) kInt kStr kBool kPtr k
noncomputable def veqL (ks : List CK) : List V → List V → Option Bool :=
  List.rec (motive := fun _ => List V → List V → Option Bool) (fun a b => List.rec (motive := fun _ => Option Bool) (List.rec (motive := fun _ => Option Bool) (some true) (fun _ _ _ => none) b) (fun _ _ _ => none) a)
    (fun k _ g a b => List.rec (motive := fun _ => Option Bool) none (fun x xs _ => List.rec (motive := fun _ => Option Bool) none (fun y ys _ => bbind (k.eq x y) fun r => bbind (g xs ys) fun r' => some (band r r')) b) a) ks
noncomputable def eqAgg (v : V) : (List CK) → (LV) → Option Bool :=
  V.rec (motive_1 := fun _ => (List CK) → (LV) → Option Bool) (motive_2 := fun _ => PUnit)
    (fun _ _ => none)
    (fun _ _ _ _ _ => none)
    (fun _ _ _ => none)
    (fun _ _ _ _ => none)
    (fun _ _ => none)
    (fun _ _ _ _ => none)
    (fun _ _ _ _ => none)
    (fun _ _ => none)
    (fun _ _ _ _ _ _ _ => none)
    (fun _ _ _ _ _ _ => none)
    (fun _ _ _ _ _ _ _ => none)
    (fun _ _ => none)
    (fun _ _ _ => none)
    (fun _ _ => none)
    (fun _ _ _ _ _ _ _ => none)
    (fun a _ ks l => veqL ks l a)
    (fun _ _ _ _ => none)
    (fun _ _ => none)
    (fun _ _ _ _ _ => none)
    ⟨⟩ (fun _ _ _ _ => ⟨⟩) v
noncomputable def kAgg (v : V) : (List CK) → (V) → Option Bool :=
  V.rec (motive_1 := fun _ => (List CK) → (V) → Option Bool) (motive_2 := fun _ => PUnit)
    (fun _ _ => none)
    (fun _ _ _ _ _ => none)
    (fun _ _ _ => none)
    (fun _ _ _ _ => none)
    (fun _ _ => none)
    (fun _ _ _ _ => none)
    (fun _ _ _ _ => none)
    (fun _ _ => none)
    (fun _ _ _ _ _ _ _ => none)
    (fun _ _ _ _ _ _ => none)
    (fun _ _ _ _ _ _ _ => none)
    (fun _ _ => none)
    (fun _ _ _ => none)
    (fun _ _ => none)
    (fun _ _ _ _ _ _ _ => none)
    (fun a _ ks y => eqAgg y ks a)
    (fun _ _ _ _ => none)
    (fun _ _ => none)
    (fun _ _ _ _ _ => none)
    ⟨⟩ (fun _ _ _ _ => ⟨⟩) v

inductive EK where
  | one (k : CK) | agg (ks : List CK) | sl | fn | map
noncomputable def EK.eq (k : EK) : V → V → Option Bool := EK.rec (motive := fun _ => V → V → Option Bool) (fun k => k.eq) (fun ks x y => kAgg x ks y) kSl kFn kMap k

/- pointers that may be told from each other by memory -/
noncomputable def V.ptrId (v : V) : Option Nat :=
  V.rec (motive_1 := fun _ => Option Nat) (motive_2 := fun _ => PUnit)
    (none)
    (fun _ _ _ => none)
    (fun _ => none)
    (fun _ _ => none)
    (none)
    (fun a _ => some a)
    (fun _ _ => none)
    (none)
    (fun _ _ _ _ _ => none)
    (fun _ _ _ _ => none)
    (fun _ _ _ _ _ => none)
    (none)
    (fun _ => none)
    (none)
    (fun _ _ _ _ _ => none)
    (fun _ _ => none)
    (fun _ _ => none)
    (none)
    (fun _ _ _ => none)
    ⟨⟩ (fun _ _ _ _ => ⟨⟩) v
noncomputable def V.aggL (v : V) : Option (List V) :=
  V.rec (motive_1 := fun _ => Option (List V)) (motive_2 := fun _ => PUnit)
    (none)
    (fun _ _ _ => none)
    (fun _ => none)
    (fun _ _ => none)
    (none)
    (fun _ _ => none)
    (fun _ _ => none)
    (none)
    (fun _ _ _ _ _ => none)
    (fun _ _ _ _ => none)
    (fun _ _ _ _ _ => none)
    (none)
    (fun _ => none)
    (none)
    (fun _ _ _ _ _ => none)
    (fun l _ => some l)
    (fun _ _ => none)
    (none)
    (fun _ _ _ => none)
    ⟨⟩ (fun _ _ _ _ => ⟨⟩) v
noncomputable def liveA (H : Heap) (id : Nat) : Bool := Option.rec (motive := fun _ => Bool) false
  (fun b => Blk.rec (motive := fun _ => Bool) (fun esz _ _ => bnot (Nat.beq esz 1)) (fun _ _ => false) false (fun _ _ _ _ _ => false) (fun _ => false) b) (T.get H id)
noncomputable def farP (ok : Nat → Bool) (x y : V) : Option Bool :=
  Option.rec (motive := fun _ => Option Bool) none (fun i => Option.rec (motive := fun _ => Option Bool) none (fun j => Bool.rec (motive := fun _ => Option Bool) none (some false) (band (bnot (Nat.beq i j)) (band (ok i) (ok j)))) y.ptrId) x.ptrId
noncomputable def kPtrH (ok : Nat → Bool) (x y : V) : Option Bool := Option.rec (motive := fun _ => Option Bool) (farP ok x y) (fun b => some b) (kPtr x y)
noncomputable def CK.eqH (ok : Nat → Bool) (k : CK) : V → V → Option Bool := CK.rec (motive := fun _ => V → V → Option Bool) kInt kStr kBool (kPtrH ok) k
noncomputable def veqG (q : CK → V → V → Option Bool) (ks : List CK) : List V → List V → Option Bool :=
  List.rec (motive := fun _ => List V → List V → Option Bool) (fun a b => List.rec (motive := fun _ => Option Bool) (List.rec (motive := fun _ => Option Bool) (some true) (fun _ _ _ => none) b) (fun _ _ _ => none) a)
    (fun k _ g a b => List.rec (motive := fun _ => Option Bool) none (fun x xs _ => List.rec (motive := fun _ => Option Bool) none (fun y ys _ => bbind (q k x y) fun r => bbind (g xs ys) fun r' => some (band r r')) b) a) ks
noncomputable def kAggH (ok : Nat → Bool) (ks : List CK) (x y : V) : Option Bool :=
  Option.rec (motive := fun _ => Option Bool) none (fun l => Option.rec (motive := fun _ => Option Bool) none (fun m => veqG (CK.eqH ok) ks l m) y.aggL) x.aggL

/- the two-sided operations -/
inductive B2 where
  | add | sub | mul | quo | rem | and | or | xor | andNot | shl | shr | lss | leq | gtr | geq
noncomputable def cmpI (f : Int → Int → Bool) (x y : V) : Option V := x.onInt fun k a s => y.onInt fun k' b t => guardO (band (keq k k') (Nat.beq (Nat.add s t) 0)) (mkB (f a b))
noncomputable def cmpS (f : Nat → Nat → Nat → Nat → Bool) (x y : V) : Option V := x.onStr fun l c => y.onStr fun m d => mkB (f l c m d)
noncomputable def ari (f : Int → Int → Int) (x y : V) : Option V := x.onInt fun k a s => y.onInt fun k' b t => guardO (keq k k') (mkI k (f a b) (Nat.add s t))
noncomputable def dvs (f : Int → Int → Int) (x y : V) : Option V :=
  x.onInt fun k a s => y.onInt fun k' b t => guardO (band (keq k k') (band (Nat.beq t 0) (bnot (ieq b 0)))) (mkI k (f a b) s)
noncomputable def remV (x y : V) : Option V :=
  x.onInt fun k a s => y.onInt fun k' b t => guardO (band (keq k k') (band (Nat.beq t 0) (bnot (ieq b 0)))) (mkN k (Int.tmod a b) s)
noncomputable def addS (x y : V) : Option V := x.onStr fun l c => y.onStr fun m d => guardO (Nat.blt (Nat.add l m) 9223372036854775808) (forceN (Nat.add l m) fun n => forceN (scat l c d) fun e => some (.str n e))
noncomputable def addV (x y : V) : Option V := selO (isStr x) (addS x y) (ari iadd x y)
noncomputable def subV (x y : V) : Option V := ari (fun a b => iadd a (Int.neg b)) x y
noncomputable def mulV (x y : V) : Option V := ari Int.mul x y
noncomputable def iand (k : IntKind) (a b : Int) : Int := Int.rec (motive := fun _ => Int → IntKind → Int)
  (fun m b k => Int.rec (motive := fun _ => Nat → IntKind → Int) (fun n m k => wrapI k (.ofNat (Nat.land m n))) (fun n m k => bits .and k (.ofNat m) (.negSucc n)) b m k)
  (fun m b k => bits .and k (.negSucc m) b) a b k
noncomputable def andV (x y : V) : Option V := x.onInt fun k a s => y.onInt fun k' b t => guardO (band (keq k k') (Nat.beq (Nat.add s t) 0)) (forceIV (iand k a b) fun m => some (.int k m 0))
noncomputable def bitV (o : BinOp) (x y : V) : Option V := x.onInt fun k a s => y.onInt fun k' b t => guardO (band (keq k k') (Nat.beq (Nat.add s t) 0)) (forceIV (bits o k a b) fun m => some (.int k m 0))
noncomputable def ishr (a : Int) (n : Nat) : Int := Int.fdiv a (Int.ofNat (Nat.pow 2 n))
noncomputable def ibits (k : IntKind) : Nat := IntKind.rec 8 16 32 64 8 16 32 64 k
noncomputable def shrV (x y : V) : Option V := x.onInt fun k a s => y.onInt fun _ b t => guardO (band (bnot (ilt b 0)) (Nat.beq (Nat.add s t) 0)) (forceIV (ishr a (Nat.min (Int.toNat b) (ibits k))) fun m => some (.int k m 0))
noncomputable def shlV (x y : V) : Option V := x.onInt fun k a s => y.onInt fun _ b t => guardO (band (bnot (ilt b 0)) (Nat.beq (Nat.add s t) 0)) (mkI k (Int.mul a (Int.ofNat (Nat.pow 2 (Nat.min (Int.toNat b) (ibits k))))) 0)
noncomputable def ofB (o : Option Bool) : Option V := Option.rec none mkB o
noncomputable def eqV (k : EK) (neg : Bool) (x y : V) : Option V := ofB (bbind (k.eq x y) fun b => some (Bool.rec (motive := fun _ => Bool → Bool) (fun b => b) bnot neg b))
noncomputable def eqpV (ks : List CK) (neg : Bool) (x y : V) (H : Heap) : Option V := ofB (bbind (kAggH (liveA H) ks x y) fun b => some (Bool.rec (motive := fun _ => Bool → Bool) (fun b => b) bnot neg b))
noncomputable def lssV (x y : V) : Option V := selO (isStr x) (cmpS slt x y) (cmpI ilt x y)
noncomputable def leqV (x y : V) : Option V := selO (isStr x) (cmpS (fun l c m d => bnot (slt m d l c)) x y) (cmpI ile x y)
noncomputable def gtrV (x y : V) : Option V := selO (isStr x) (cmpS (fun l c m d => slt m d l c) x y) (cmpI (fun a b => ilt b a) x y)
noncomputable def geqV (x y : V) : Option V := selO (isStr x) (cmpS (fun l c m d => bnot (slt l c m d)) x y) (cmpI (fun a b => ile b a) x y)
noncomputable def B2.ev (o : B2) : V → V → Option V := B2.rec (motive := fun _ => V → V → Option V)
  addV subV mulV (dvs Int.tdiv) remV andV (bitV .or) (bitV .xor) (bitV .andNot) shlV shrV lssV leqV gtrV geqV o
end Go.Eng

/- The engine, part 2: operations, code, runs. -/
namespace Go.Eng

/- operations that only look -/
inductive AN where
  | mv (x : X)
  | pick (c a b : X)
  | ld1 (x : X)
  | ldn (n : Nat) (x : X)
  | nilck (x : X)
  | bin (o : B2) (x y : X)
  | eq (k : EK) (neg : Bool) (x y : X)
  | not (x : X)
  | neg (x : X)
  | cvi (k : IntKind) (x : X)
  | mkfn (f : Nat) (first caps : List X)
  | faddr (off : Nat) (x : X)
  | field1 (off : Nat) (x : X)
  | fieldn (off n : Nat) (x : X)
  | iaddr (esz : Nat) (x i : X)
  | iaddrA (n esz : Nat) (x i : X)
  | idxS (x i : X)
  | idxA (n : Nat) (x i : X)
  | ext (x : X) (i : Nat)
  | lenS (x : X)
  | lenL (x : X)
  | lenM (x : X)
  | lenC (n : Nat)
  | look (c : CK) (ok : Bool) (zero : V) (m k : X)
  | build (zero : List V) (parts : List (Nat × Nat × X))
  | slcS (x : X) (lo hi : Option X)
  | slc (esz : Nat) (x : X) (lo hi mx : Option X)
  | slcA (n esz : Nat) (x : X) (lo hi : Option X)
  | maxi (x y : X)
  | mini (x y : X)
  | cvS (x : X)
  | idxByte (s c : X)
  | cmpS (x y : X)
  | eqp (k : List CK) (neg : Bool) (x y : X)

/- operations that only lay a new block -/
inductive AA where
  | alloc (esz : Nat) (es : List (List V))
  | box (x : X)
  | bslice (esz cnt : Nat) (zero : List V) (parts : List (Nat × X))
  | mkslice (esz bytes : Nat) (zero : List V) (l c : X)
  | mkmap
  | bld (t e : Nat)

/- operations that act -/
inductive AE where
  | asg (x : X)
  | st (n : Nat) (x v : X)
  | app (esz bytes : Nat) (x y : X)
  | copy (esz : Nat) (x y : X)
  | mapupd (c : CK) (m k v : X)
  | del (c : CK) (m k : X)
  | clrM (m : X)
  | call (f : Nat) (args : List X)
  | callv (x : X) (args : List X)
  | defer (dp : P2) (x : X) (args : List X)
  | cvB (x : X)

inductive AO where
  | n (o : AN) | a (o : AA) | e (o : AE)
inductive Dst where
  | no | to (p : P2) | ps
inductive Gd where
  | no | on (x : X) (b : Bool)
inductive AOp where
  | mk (d : Dst) (g : Gd) (o : AO)


/- where a piece of a slice begins and ends -/
noncomputable def natI (n : Int) : (Nat → Option V) → Option V := Int.rec (motive := fun _ => (Nat → Option V) → Option V) (fun m f => f m) (fun _ _ => none) n
noncomputable def onNat (v : V) (f : Nat → Option V) : Option V := v.onInt fun _ n s => guardO (Nat.beq s 0) (natI n f)
noncomputable def optN (x : Option X) : RS → Nat → (Nat → Option V) → Option V :=
  Option.rec (motive := fun _ => RS → Nat → (Nat → Option V) → Option V) (fun _ d f => f d) (fun x R _ f => onNat (x.ev R) f) x
noncomputable def f3 (a b c : Nat) (f : Nat → Nat → Nat → V) : Option V := forceN a fun a => forceN b fun b => forceN c fun c => some (f a b c)
noncomputable def slcNil (R : RS) (lo hi mx : Option X) : Option V := optN mx R 0 fun m => optN hi R 0 fun h => optN lo R 0 fun l => guardO (band (Nat.ble l h) (band (Nat.ble h m) (Nat.beq m 0))) (some .nils)
noncomputable def slcSl (z : Nat) (R : RS) (lo hi mx : Option X) (id off ln cap esz : Nat) : Option V := guardO (Nat.beq z esz) (optN mx R cap fun m => optN hi R ln fun h => optN lo R 0 fun l =>
  guardO (band (Nat.ble l h) (band (Nat.ble h m) (Nat.ble m cap))) (f3 (Nat.add off l) (Nat.sub h l) (Nat.sub m l) fun o d c => .sl id o d c esz))
noncomputable def slcGsl0 (R : RS) (lo hi : Option X) (id off ln esz : Nat) : Option V := optN hi R ln fun h => optN lo R 0 fun l =>
  guardO (band (Nat.ble l h) (Nat.ble h ln)) (f3 (Nat.add off l) (Nat.sub h l) 0 fun o d _ => .gsl id o d esz)
noncomputable def slcGsl1 (R : RS) (lo hi : Option X) (mx : X) (id off ln esz : Nat) : Option V := onNat (mx.ev R) fun m => optN hi R 0 fun h => optN lo R 0 fun l =>
  guardO (band (Nat.ble l h) (band (Nat.ble h m) (Nat.ble m ln))) (f3 (Nat.add off l) (Nat.sub h l) (Nat.sub m l) fun o d c => .sl id o d c esz)
noncomputable def slcGsl (z : Nat) (R : RS) (lo hi mx : Option X) (id off ln esz : Nat) : Option V :=
  guardO (Nat.beq z esz) (Option.rec (motive := fun _ => Option V) (slcGsl0 R lo hi id off ln esz) (fun mx => slcGsl1 R lo hi mx id off ln esz) mx)
noncomputable def slcRsl (z : Nat) (R : RS) (lo hi mx : Option X) (b off ln cap esz : Nat) : Option V := optN hi R ln fun h => optN lo R 0 fun l =>
  Option.rec (motive := fun _ => Option V) (guardO (band (Nat.ble l h) (Nat.ble h cap)) (f3 (Nat.add off (Nat.mul l z)) (Nat.sub h l) (Nat.sub cap l) fun o d c => .rsl b o d c esz)) (fun _ => none) mx
noncomputable def slcV (z : Nat) (x : V) (R : RS) (lo hi mx : Option X) : Option V := x.onSl (slcNil R lo hi mx) (slcSl z R lo hi mx) (slcGsl z R lo hi mx) (slcRsl z R lo hi mx)
noncomputable def slcSV (x : V) (R : RS) (lo hi : Option X) : Option V :=
  x.onStr fun ln c => optN hi R ln fun h => optN lo R 0 fun l => guardO (band (Nat.ble l h) (Nat.ble h ln)) (f3 (Nat.sub h l) (ssub c l h) 0 fun d c _ => .str d c)
noncomputable def iaddrV (esz : Nat) (x i : V) : Option V := onNat i fun i => x.onSl none
  (fun id off ln _ e => guardO (band (Nat.beq e esz) (Nat.blt i ln)) (forceN (Nat.mul (Nat.add off i) esz) fun o => some (.ptr id o)))
  (fun id off ln e => guardO (band (Nat.beq e esz) (Nat.blt i ln)) (forceN (Nat.mul (Nat.add off i) esz) fun o => some (.ptr id o)))
  (fun b off ln _ _ => guardO (Nat.blt i ln) (forceN (Nat.add off (Nat.mul i esz)) fun o => some (.gptr b o)))
noncomputable def paddV (off : Nat) (x : V) : Option V := x.onPtr (fun id o => forceN (Nat.add o off) fun o => some (.ptr id o)) (fun b o => forceN (Nat.add o off) fun o => some (.gptr b o))
abbrev ME := List (V × V × Nat)
/- a key's entry: its place and what it holds -/
noncomputable def findK (c : CK) (k : V) (es : ME) : Nat → Option (Option (Nat × V)) :=
  List.rec (motive := fun _ => Nat → Option (Option (Nat × V))) (fun _ => some none)
    (fun e _ g i => gbind (c.eq e.1 k) fun r => Bool.rec (g (Nat.succ i)) (some (some (i, e.2.1))) r) es
noncomputable def mapB (b : Blk) : (ME → Nat → Option V) → Option V := Blk.rec (motive := fun _ => (ME → Nat → Option V) → Option V) (fun _ _ _ _ => none) (fun es c f => f es c) (fun _ => none) (fun _ _ _ _ _ _ => none) (fun _ _ => none) b
noncomputable def withMap (H : Heap) (m : V) (f : ME → Nat → Option V) : Option V := m.onMapL (f [] 0) fun id => Option.rec (motive := fun _ => (ME → Nat → Option V) → Option V) (fun _ => none) mapB (T.get H id) f
noncomputable def fillL (parts : List (Nat × Nat × X)) : RS → List V → List V :=
  List.rec (motive := fun _ => RS → List V → List V) (fun _ l => l) (fun p _ g R l => g R (putL (vcells (p.2.2.ev R)) p.1 l)) parts
noncomputable def okC (v : V) : Bool :=
  V.rec (motive_1 := fun _ => Bool) (motive_2 := fun _ => PUnit)
    (false)
    (fun _ _ _ => true)
    (fun _ => true)
    (fun _ _ => true)
    (true)
    (fun _ _ => true)
    (fun _ _ => true)
    (true)
    (fun _ _ _ _ _ => true)
    (fun _ _ _ _ => true)
    (fun _ _ _ _ _ => true)
    (true)
    (fun _ => true)
    (true)
    (fun _ _ _ _ _ => true)
    (fun _ _ => true)
    (fun _ _ => false)
    (true)
    (fun _ _ _ => true)
    ⟨⟩ (fun _ _ _ _ => ⟨⟩) v
noncomputable def partsC (parts : List (Nat × Nat × X)) : RS → Bool :=
  List.rec (motive := fun _ => RS → Bool) (fun _ => true) (fun p _ g R => band (band (okC (p.2.2.ev R)) (Nat.beq (len (vcells (p.2.2.ev R))) p.2.1)) (g R)) parts
/- the elements of a slice -/
abbrev LLV := List LV
noncomputable def elemsB (H : Heap) (id esz : Nat) (n : Nat) : Nat → Option LLV :=
  Nat.rec (motive := fun _ => Nat → Option LLV) (fun _ => some [])
    (fun _ g o => gbind (ldH H id (Nat.mul o esz) esz) fun L => gbind (g (Nat.succ o)) fun LS => some (L :: LS)) n
noncomputable def elemsG (G : Roms) (b esz : Nat) (n : Nat) : Nat → Option LLV :=
  Nat.rec (motive := fun _ => Nat → Option LLV) (fun _ => some [])
    (fun _ g o => gbind (G b o esz) fun L => gbind (g (Nat.add o esz)) fun LS => some (L :: LS)) n
noncomputable def bytesL (n : Nat) : Nat → LLV :=
  Nat.rec (motive := fun _ => Nat → LLV) (fun _ => []) (fun _ g c => [.int .u8 (.ofNat (Nat.mod c 256)) 0] :: g (Nat.div c 256)) n
noncomputable def elems (v : V) : (Roms) → (Heap) → (Nat) → Option LLV :=
  V.rec (motive_1 := fun _ => (Roms) → (Heap) → (Nat) → Option LLV) (motive_2 := fun _ => PUnit)
    (fun _ _ _ => none)
    (fun _ _ _ _ _ _ => none)
    (fun _ _ _ _ => none)
    (fun a b _ _ z => Bool.rec (motive := fun _ => Option LLV) none (some (bytesL a b)) (Nat.beq 1 z))
    (fun _ _ _ => none)
    (fun _ _ _ _ _ => none)
    (fun _ _ _ _ _ => none)
    (fun _ _ _ => some [])
    (fun a b c _ e _ H z => Bool.rec (motive := fun _ => Option LLV) none (elemsB H a z c b) (Nat.beq e z))
    (fun a b c d _ H z => Bool.rec (motive := fun _ => Option LLV) none (elemsB H a z c b) (Nat.beq d z))
    (fun a b c _ _ G _ z => elemsG G a z c b)
    (fun _ _ _ => none)
    (fun _ _ _ _ => none)
    (fun _ _ _ => none)
    (fun _ _ _ _ _ _ _ _ => none)
    (fun _ _ _ _ _ => none)
    (fun _ _ _ _ _ => none)
    (fun _ _ _ => none)
    (fun _ _ _ _ _ _ => none)
    ⟨⟩ (fun _ _ _ _ => ⟨⟩) v
noncomputable def byteOf (v : V) : Option Nat :=
  V.rec (motive_1 := fun _ => Option Nat) (motive_2 := fun _ => PUnit)
    (none)
    (fun a b c => Int.rec (motive := fun _ => Nat → Option Nat) (fun m t => Bool.rec none (some m) (band (Nat.beq (kno a) 4) (band (Nat.blt m 256) (Nat.beq t 0)))) (fun _ _ => none) b c)
    (fun _ => none)
    (fun _ _ => none)
    (none)
    (fun _ _ => none)
    (fun _ _ => none)
    (none)
    (fun _ _ _ _ _ => none)
    (fun _ _ _ _ => none)
    (fun _ _ _ _ _ => none)
    (none)
    (fun _ => none)
    (none)
    (fun _ _ _ _ _ => none)
    (fun _ _ => none)
    (fun _ _ => none)
    (none)
    (fun _ _ _ => none)
    ⟨⟩ (fun _ _ _ _ => ⟨⟩) v

/- a string of bytes -/
noncomputable def packB (l : LLV) : Option Nat :=
  List.rec (motive := fun _ => Option Nat) (some 0) (fun x _ g => gbind (nth x 0) fun v => gbind (byteOf v) fun m => gbind g fun c => some (Nat.add m (Nat.mul 256 c))) l
/- the place of a byte in a string -/
noncomputable def idxByF (b : Nat) (f : Nat) : Nat → Nat → Int :=
  Nat.rec (motive := fun _ => Nat → Nat → Int) (fun _ _ => .negSucc 0)
    (fun _ g c i => Bool.rec (g (Nat.div c 256) (Nat.succ i)) (.ofNat i) (Nat.beq (Nat.mod c 256) b)) f
abbrev EvT := Roms → RS → Heap → Option V
noncomputable def eMv (x : X) : EvT := fun _ R _ => some (x.ev R)
noncomputable def eNo (b : X) (R : RS) : Option V := some (b.ev R)
noncomputable def ePick (c a b : X) : EvT := fun _ R _ => (c.ev R).onBool fun t => selO t (some (a.ev R)) (some (b.ev R))
noncomputable def eLd1 (x : X) : EvT := fun G R H => lbind (ldP (x.ev R) G H 1) fun L => nth L 0
noncomputable def eLdn (n : Nat) (x : X) : EvT := fun G R H => lbind (ldP (x.ev R) G H n) fun L => some (.agg L)
noncomputable def eNilck (x : X) : EvT := fun _ R _ => nilckV (x.ev R)
noncomputable def eBin (o : B2) (x y : X) : EvT := fun _ R _ => o.ev (x.ev R) (y.ev R)
noncomputable def eEq (k : EK) (neg : Bool) (x y : X) : EvT := fun _ R _ => eqV k neg (x.ev R) (y.ev R)
noncomputable def eNot (x : X) : EvT := fun _ R _ => (x.ev R).onBool fun b => mkB (bnot b)
noncomputable def eNeg (x : X) : EvT := fun _ R _ => (x.ev R).onInt fun k n s => mkI k (Int.neg n) s
noncomputable def eCvi (k : IntKind) (x : X) : EvT := fun _ R _ => (x.ev R).onInt fun _ n s => mkI k n s
noncomputable def eMkfn (f : Nat) (a c : List X) : EvT := fun _ R _ => some (.fn f (mapX a R) (mapX c R))
noncomputable def eFaddr (off : Nat) (x : X) : EvT := fun _ R _ => paddV off (x.ev R)
noncomputable def eField1 (off : Nat) (x : X) : EvT := fun _ R _ => (x.ev R).onAgg fun l => nth l off
noncomputable def eFieldn (off n : Nat) (x : X) : EvT := fun _ R _ => (x.ev R).onAgg fun l => some (.agg (takeL n (dropL off l)))
noncomputable def eIaddr (esz : Nat) (x i : X) : EvT := fun _ R _ => iaddrV esz (x.ev R) (i.ev R)
noncomputable def eIaddrA (n esz : Nat) (x i : X) : EvT := fun _ R _ => onNat (i.ev R) fun i => guardO (Nat.blt i n) (paddV (Nat.mul i esz) (x.ev R))
noncomputable def eIdxS (x i : X) : EvT := fun _ R _ => (x.ev R).onStr fun ln c => onNat (i.ev R) fun i => guardO (Nat.blt i ln) (forceN (sget c i) fun b => some (.int .u8 (.ofNat b) 0))
noncomputable def eIdxA (n : Nat) (x i : X) : EvT := fun _ R _ => (x.ev R).onAgg fun l => onNat (i.ev R) fun i => guardO (Nat.blt i n) (nth l i)
noncomputable def eExt (x : X) (i : Nat) : EvT := fun _ R _ => (x.ev R).onTup fun l => nth l i
noncomputable def eLenS (x : X) : EvT := fun _ R _ => (x.ev R).onStr fun n _ => some (.int .i64 (.ofNat n) 0)
noncomputable def eLenL (x : X) : EvT := fun _ R _ => lenV (x.ev R)
noncomputable def eLenM (x : X) : EvT := fun _ R H => withMap H (x.ev R) fun es _ => forceN (len es) fun n => some (.int .i64 (.ofNat n) 0)
noncomputable def eLenC (n : Nat) : EvT := fun _ _ _ => some (.int .i64 (.ofNat n) 0)
noncomputable def lookR (ok : Bool) (z : V) (r : Option (Nat × V)) : Option V :=
  Option.rec (motive := fun _ => Option V) (selO ok (some (.tup [z, .bool false])) (some z)) (fun p => selO ok (some (.tup [p.2, .bool true])) (some p.2)) r
noncomputable def eLook (c : CK) (ok : Bool) (z : V) (m k : X) : EvT := fun _ R H => withMap H (m.ev R) fun es _ => gbind (findK c (k.ev R) es 0) (lookR ok z)
noncomputable def eBuild (z : LV) (ps : List (Nat × Nat × X)) : EvT := fun _ R _ => guardO (partsC ps R) (some (.agg (fillL ps R z)))
noncomputable def eSlcS (x : X) (lo hi : Option X) : EvT := fun _ R _ => slcSV (x.ev R) R lo hi
noncomputable def eSlc (z : Nat) (x : X) (lo hi mx : Option X) : EvT := fun _ R _ => slcV z (x.ev R) R lo hi mx
noncomputable def eSlcA (n esz : Nat) (x : X) (lo hi : Option X) : EvT := fun _ R _ => (x.ev R).onPtr (fun id o => optN hi R n fun h => optN lo R 0 fun l =>
  guardO (band (Nat.beq (Nat.mod o esz) 0) (band (Nat.ble l h) (Nat.ble h n))) (f3 (Nat.add (Nat.div o esz) l) (Nat.sub h l) (Nat.sub n l) fun a b c => .sl id a b c esz)) (fun _ _ => none)
noncomputable def eMax (x y : X) : EvT := fun _ R _ => (x.ev R).onInt fun k a s => (y.ev R).onInt fun k' b t => guardO (band (keq k k') (Nat.beq (Nat.add s t) 0)) (some (.int k (Bool.rec a b (ilt a b)) 0))
noncomputable def eMin (x y : X) : EvT := fun _ R _ => (x.ev R).onInt fun k a s => (y.ev R).onInt fun k' b t => guardO (band (keq k k') (Nat.beq (Nat.add s t) 0)) (some (.int k (Bool.rec a b (ilt b a)) 0))
noncomputable def eCvS (x : X) : EvT := fun G R H => guardO (bnot (isStr (x.ev R))) (gbind (elems (x.ev R) G H 1) fun l => gbind (packB l) fun c => f3 (len l) c 0 fun n c _ => .str n c)
noncomputable def eIdxBy (s c : X) : EvT := fun _ R _ => (s.ev R).onStr fun n cd => (c.ev R).onInt fun k b _ => guardO (Nat.beq (kno k) 4) (natI b fun b => guardO (Nat.blt b 256) (forceIV (idxByF b n cd 0) fun i => some (.int .i64 i 0)))
noncomputable def cmpSV (x y : V) : Option V := x.onStr fun l c => y.onStr fun m d => some (.int .i64 (Bool.rec (Bool.rec (.ofNat 0) (.ofNat 1) (slt m d l c)) (.negSucc 0) (slt l c m d)) 0)
noncomputable def eEqp (k : List CK) (neg : Bool) (x y : X) : EvT := fun _ R H => eqpV k neg (x.ev R) (y.ev R) H
noncomputable def eCmpS (x y : X) : EvT := fun _ R _ => cmpSV (x.ev R) (y.ev R)
noncomputable def AN.ev (o : AN) : EvT := AN.rec (motive := fun _ => EvT)
  eMv ePick eLd1 eLdn eNilck eBin eEq eNot eNeg eCvi eMkfn eFaddr eField1 eFieldn eIaddr eIaddrA eIdxS eIdxA eExt eLenS eLenL eLenM eLenC eLook eBuild eSlcS eSlc eSlcA eMax eMin eCvS eIdxBy eCmpS eEqp o

noncomputable def repT (L : LV) (n : Nat) : T LV → T LV :=
  Nat.rec (motive := fun _ => T LV → T LV) (fun t => t) (fun i g t => g (T.set t i L)) n
/- elements into an array from a place on -/
noncomputable def setEs (LS : LLV) : Nat → T LV → T LV :=
  List.rec (motive := fun _ => Nat → T LV → T LV) (fun _ t => t) (fun L _ g i t => g (Nat.succ i) (T.set t i L)) LS
noncomputable def partsT (parts : List (Nat × X)) : RS → T LV → T LV :=
  List.rec (motive := fun _ => RS → T LV → T LV) (fun _ t => t) (fun p _ g R t => g R (T.set t p.1 (vcells (p.2.ev R)))) parts
noncomputable def partsOk (parts : List (Nat × X)) : RS → Nat → Nat → Bool :=
  List.rec (motive := fun _ => RS → Nat → Nat → Bool) (fun _ _ _ => true) (fun p _ g R esz cnt => band (band (okC (p.2.ev R)) (band (Nat.blt p.1 cnt) (Nat.beq (len (vcells (p.2.ev R))) esz))) (g R esz cnt)) parts
noncomputable def V.onPtrP (v : V) : (Nat → Prop) → Prop :=
  V.rec (motive_1 := fun _ => (Nat → Prop) → Prop) (motive_2 := fun _ => PUnit)
    (fun _ => False)
    (fun _ _ _ _ => False)
    (fun _ _ => False)
    (fun _ _ _ => False)
    (fun _ => False)
    (fun a _ f => f a)
    (fun _ _ _ => False)
    (fun _ => False)
    (fun _ _ _ _ _ _ => False)
    (fun _ _ _ _ _ => False)
    (fun _ _ _ _ _ _ => False)
    (fun _ => False)
    (fun _ _ => False)
    (fun _ => False)
    (fun _ _ _ _ _ _ => False)
    (fun _ _ _ => False)
    (fun _ _ _ => False)
    (fun _ => False)
    (fun _ _ _ _ => False)
    ⟨⟩ (fun _ _ _ _ => ⟨⟩) v
noncomputable def V.onPtrP2 (v : V) : (Nat → Nat → Prop) → Prop :=
  V.rec (motive_1 := fun _ => (Nat → Nat → Prop) → Prop) (motive_2 := fun _ => PUnit)
    (fun _ => False)
    (fun _ _ _ _ => False)
    (fun _ _ => False)
    (fun _ _ _ => False)
    (fun _ => False)
    (fun a b f => f a b)
    (fun _ _ _ => False)
    (fun _ => False)
    (fun _ _ _ _ _ _ => False)
    (fun _ _ _ _ _ => False)
    (fun _ _ _ _ _ _ => False)
    (fun _ => False)
    (fun _ _ => False)
    (fun _ => False)
    (fun _ _ _ _ _ _ => False)
    (fun _ _ _ => False)
    (fun _ _ _ => False)
    (fun _ => False)
    (fun _ _ _ _ => False)
    ⟨⟩ (fun _ _ _ _ => ⟨⟩) v
abbrev KA := Blk → (Nat → V) → Prop
abbrev AlT := RS → KA → Prop
noncomputable def onB (b : Bool) (p : Prop) : Prop := Bool.rec (motive := fun _ => Prop → Prop) (fun _ => False) (fun p => p) b p
noncomputable def onNatP (v : V) (f : Nat → Prop) : Prop := onO (onNat v fun n => some (.ptr n 0)) fun v => V.onPtrP v f
noncomputable def aAlloc (esz : Nat) (es : LLV) : AlT := fun _ k => forceP (len es) fun n => k (.arr esz n (setEs es 0 .e)) fun id => .ptr id 0
noncomputable def aBox (x : X) : AlT := fun R k => onB (okC (x.ev R)) (forceP (len (vcells (x.ev R))) fun e => k (.arr e 1 (T.set .e 0 (vcells (x.ev R)))) fun id => .ptr id 0)
noncomputable def aBslice (esz cnt : Nat) (z : LV) (ps : List (Nat × X)) : AlT := fun R k => onB (partsOk ps R esz cnt) (k (.arr esz cnt (partsT ps R (repT z cnt .e))) fun id => .sl id 0 cnt cnt esz)
noncomputable def aMkslice (esz bs : Nat) (z : LV) (l c : X) : AlT := fun R k => onNatP (l.ev R) fun l => onNatP (c.ev R) fun c =>
  onB (band (Nat.ble l c) (Nat.ble (Nat.mul bs c) 281474976710656)) (k (.arr esz c (repT z c .e)) fun id => .sl id 0 l c esz)
noncomputable def aMkmap : AlT := fun _ k => k (.map [] 0) fun id => .map id
noncomputable def aBld (t e : Nat) : AlT := fun _ k => k (.bld t e 0 0 0) fun id => .ptr id 0
noncomputable def AA.al (o : AA) : AlT := AA.rec (motive := fun _ => AlT) aAlloc aBox aBslice aMkslice aMkmap aBld o

abbrev K := Regs → Heap → Nat → Prop
abbrev KV := V → Heap → Nat → Prop
abbrev CallT := Nat → List V → Heap → Nat → KV → Prop

noncomputable def roomOk (need bytes : Nat) : Bool := Nat.ble (Nat.mul need bytes) 140737488355328
abbrev AppT := Roms → Nat → Nat → LLV → Heap → Nat → KV → Prop
/- a new array of old elements and new ones -/
noncomputable def appNew (esz bs : Nat) (OS LS : LLV) (H : Heap) (n : Nat) (k : KV) : Prop :=
  forceP (Nat.add (len OS) (len LS)) fun need => onB (roomOk need bs) (forceP n fun n => k (.gsl n 0 need esz) (T.set H n (.arr esz need (setEs LS (len OS) (setEs OS 0 .e)))) (Nat.succ n))
noncomputable def appNil : AppT := fun _ esz bs LS H n k => List.rec (motive := fun _ => Prop) (k .nils H n) (fun _ _ _ => appNew esz bs [] LS H n k) LS
noncomputable def appIn (id off ln cap esz need : Nat) (LS : LLV) (H : Heap) (n : Nat) (k : KV) (b : Blk) : Prop :=
  Blk.rec (motive := fun _ => Prop) (fun esz' cnt c => onB (band (Nat.beq esz esz') (Nat.ble (Nat.add off need) cnt)) (k (.sl id off need cap esz) (T.set H id (.arr esz cnt (setEs LS (Nat.add off ln) c))) n)) (fun _ _ => False) False (fun _ _ _ _ _ => False) (fun _ => False) b
noncomputable def appSl (id off ln cap e : Nat) : AppT := fun _ esz bs LS H n k => onB (Nat.beq e esz) (forceP (Nat.add ln (len LS)) fun need =>
  Bool.rec (motive := fun _ => Prop) (onO (elemsB H id esz ln off) fun OS => appNew esz bs OS LS H n k) (onO (T.get H id) fun b => appIn id off ln cap esz need LS H n k b) (Nat.ble need cap))
noncomputable def appMove (id off ln esz bs : Nat) (LS : LLV) (H : Heap) (n : Nat) (k : KV) (b : Blk) : Prop :=
  Blk.rec (motive := fun _ => Prop) (fun esz' cnt c => forceP (Nat.add ln (len LS)) fun need => onB (band (roomOk need bs) (band (Nat.beq esz esz') (Nat.ble (Nat.add off ln) cnt)))
    (forceP n fun n => Nat.rec (motive := fun _ => Prop)
      (k (.gsl n 0 need esz) (T.set (T.set H id .dead) n (.arr esz need (setEs LS ln c))) (Nat.succ n))
      (fun _ _ => onO (elemsB H id esz ln off) fun OS => k (.gsl n 0 need esz) (T.set (T.set H id .dead) n (.arr esz need (setEs LS ln (setEs OS 0 .e)))) (Nat.succ n)) off))
    (fun _ _ => False) False (fun _ _ _ _ _ => False) (fun _ => False) b
noncomputable def appGsl (id off ln e : Nat) : AppT := fun _ esz bs LS H n k => onB (Nat.beq e esz) (List.rec (motive := fun _ => Prop) (k (.gsl id off ln esz) H n)
  (fun _ _ _ => onO (T.get H id) fun b => appMove id off ln esz bs LS H n k b) LS)
noncomputable def appRsl (b off ln cap e : Nat) : AppT := fun G esz bs LS H n k => onB (Nat.blt cap (Nat.add ln (len LS))) (onO (elemsG G b esz ln off) fun OS => appNew esz bs OS LS H n k)
noncomputable def appNo : AppT := fun _ _ _ _ _ _ _ => False
noncomputable def appE (v : V) : AppT :=
  V.rec (motive_1 := fun _ => AppT) (motive_2 := fun _ => PUnit)
    (appNo)
    (fun _ _ _ => appNo)
    (fun _ => appNo)
    (fun _ _ => appNo)
    (appNo)
    (fun _ _ => appNo)
    (fun _ _ => appNo)
    (appNil)
    (fun a b c d e => appSl a b c d e)
    (fun a b c d => appGsl a b c d)
    (fun a b c d e => appRsl a b c d e)
    (appNo)
    (fun _ => appNo)
    (appNo)
    (fun _ _ _ _ _ => appNo)
    (fun _ _ => appNo)
    (fun _ _ => appNo)
    (appNo)
    (fun _ _ _ => appNo)
    ⟨⟩ (fun _ _ _ _ => ⟨⟩) v

noncomputable def copyIn (id off esz : Nat) (LS : LLV) (H : Heap) (n : Nat) (k : KV) (b : Blk) : Prop :=
  Blk.rec (motive := fun _ => Prop) (fun esz' cnt c => onB (band (Nat.beq esz esz') (Nat.ble (Nat.add off (len LS)) cnt)) (forceP (len LS) fun m => k (.int .i64 (.ofNat m) 0) (T.set H id (.arr esz cnt (setEs LS off c))) n)) (fun _ _ => False) False (fun _ _ _ _ _ => False) (fun _ => False) b
abbrev CpT := Nat → LLV → Heap → Nat → KV → Prop
noncomputable def copyTo (id off ln : Nat) : CpT := fun esz LS H n k => onO (T.get H id) fun b => copyIn id off esz (takeL ln LS) H n k b
noncomputable def copyE (v : V) : (Nat) → (LLV) → (Heap) → (Nat) → (KV) → Prop :=
  V.rec (motive_1 := fun _ => (Nat) → (LLV) → (Heap) → (Nat) → (KV) → Prop) (motive_2 := fun _ => PUnit)
    (fun _ _ _ _ _ => False)
    (fun _ _ _ _ _ _ _ _ => False)
    (fun _ _ _ _ _ _ => False)
    (fun _ _ _ _ _ _ _ => False)
    (fun _ _ _ _ _ => False)
    (fun _ _ _ _ _ _ _ => False)
    (fun _ _ _ _ _ _ _ => False)
    (fun _ _ H n k => k (.int .i64 (.ofNat 0) 0) H n)
    (fun a b c _ e z L H n k => onB (Nat.beq e z) (copyTo a b c z L H n k))
    (fun a b c d z L H n k => onB (Nat.beq d z) (copyTo a b c z L H n k))
    (fun _ _ _ _ _ _ _ _ _ _ => False)
    (fun _ _ _ _ _ => False)
    (fun _ _ _ _ _ _ => False)
    (fun _ _ _ _ _ => False)
    (fun _ _ _ _ _ _ _ _ _ _ => False)
    (fun _ _ _ _ _ _ _ => False)
    (fun _ _ _ _ _ _ _ => False)
    (fun _ _ _ _ _ => False)
    (fun _ _ _ _ _ _ _ _ => False)
    ⟨⟩ (fun _ _ _ _ => ⟨⟩) v

noncomputable def delnth {α : Type} (l : List α) : Nat → List α :=
  List.rec (motive := fun _ => Nat → List α) (fun _ => []) (fun y ys g i => Nat.rec (motive := fun _ => List α) ys (fun i _ => y :: g i) i) l
noncomputable def mapBP (b : Blk) : (ME → Nat → Option Blk) → Option Blk := Blk.rec (motive := fun _ => (ME → Nat → Option Blk) → Option Blk) (fun _ _ _ _ => none) (fun es c f => f es c) (fun _ => none) (fun _ _ _ _ _ _ => none) (fun _ _ => none) b
noncomputable def mapH (H : Heap) (id : Nat) (f : ME → Nat → Option Blk) (g : Heap → Prop) : Prop := onO (T.get H id) fun b => onO (mapBP b f) fun b => g (T.set H id b)
noncomputable def mapE (v : V) : (Heap) → (ME → Nat → Option Blk) → (Heap → Prop) → Prop :=
  V.rec (motive_1 := fun _ => (Heap) → (ME → Nat → Option Blk) → (Heap → Prop) → Prop) (motive_2 := fun _ => PUnit)
    (fun _ _ _ => False)
    (fun _ _ _ _ _ _ => False)
    (fun _ _ _ _ => False)
    (fun _ _ _ _ _ => False)
    (fun _ _ _ => False)
    (fun _ _ _ _ _ => False)
    (fun _ _ _ _ _ => False)
    (fun _ _ _ => False)
    (fun _ _ _ _ _ _ _ _ => False)
    (fun _ _ _ _ _ _ _ => False)
    (fun _ _ _ _ _ _ _ _ => False)
    (fun _ _ _ => False)
    (fun a H f g => mapH H a f g)
    (fun _ _ _ => False)
    (fun _ _ _ _ _ _ _ _ => False)
    (fun _ _ _ _ _ => False)
    (fun _ _ _ _ _ => False)
    (fun _ _ _ => False)
    (fun _ _ _ _ _ _ => False)
    ⟨⟩ (fun _ _ _ _ => ⟨⟩) v
noncomputable def V.onFnP (v : V) : (Nat → LV → LV → Prop) → Prop :=
  V.rec (motive_1 := fun _ => (Nat → LV → LV → Prop) → Prop) (motive_2 := fun _ => PUnit)
    (fun _ => False)
    (fun _ _ _ _ => False)
    (fun _ _ => False)
    (fun _ _ _ => False)
    (fun _ => False)
    (fun _ _ _ => False)
    (fun _ _ _ => False)
    (fun _ => False)
    (fun _ _ _ _ _ _ => False)
    (fun _ _ _ _ _ => False)
    (fun _ _ _ _ _ _ => False)
    (fun _ => False)
    (fun _ _ => False)
    (fun _ => False)
    (fun a b c _ _ f => f a b c)
    (fun _ _ _ => False)
    (fun _ _ _ => False)
    (fun _ => False)
    (fun _ _ _ _ => False)
    ⟨⟩ (fun _ _ _ _ => ⟨⟩) v
noncomputable def tupL (v : V) : LV :=
  V.rec (motive_1 := fun _ => LV) (motive_2 := fun _ => PUnit)
    ([])
    (fun _ _ _ => [])
    (fun _ => [])
    (fun _ _ => [])
    ([])
    (fun _ _ => [])
    (fun _ _ => [])
    ([])
    (fun _ _ _ _ _ => [])
    (fun _ _ _ _ => [])
    (fun _ _ _ _ _ => [])
    ([])
    (fun _ => [])
    ([])
    (fun _ _ _ _ _ => [])
    (fun _ _ => [])
    (fun a _ => a)
    ([])
    (fun _ _ _ => [])
    ⟨⟩ (fun _ _ _ _ => ⟨⟩) v

abbrev ExT := Roms → CallT → RS → Heap → Nat → KV → Prop
noncomputable def xAsg (x : X) : ExT := fun _ _ R H n k => k (x.ev R) H n
noncomputable def xSt (sz : Nat) (x v : X) : ExT := fun _ _ R H n k => onB (band (okC (v.ev R)) (Nat.beq (len (vcells (v.ev R))) sz)) (onO (stP (x.ev R) H sz (vcells (v.ev R))) fun H => k .undef H n)
noncomputable def xApp (esz bs : Nat) (x y : X) : ExT := fun G _ R H n k => onO (elems (y.ev R) G H esz) fun LS => appE (x.ev R) G esz bs LS H n k
noncomputable def xCopy (esz : Nat) (x y : X) : ExT := fun G _ R H n k => onO (elems (y.ev R) G H esz) fun LS => copyE (x.ev R) esz LS H n k
noncomputable def updM (ck : CK) (key v : V) (es : ME) (c : Nat) : Option Blk := gbind (findK ck key es 0) fun r =>
  Option.rec (motive := fun _ => Option Blk) (some (.map (cat es [(key, v, c)]) (Nat.succ c))) (fun p => gbind (nth es p.1) fun e => some (.map (setnth (e.1, v, e.2.2) es p.1) c)) r
noncomputable def delM (ck : CK) (key : V) (es : ME) (c : Nat) : Option Blk := gbind (findK ck key es 0) fun r =>
  Option.rec (motive := fun _ => Option Blk) (some (.map es c)) (fun p => some (.map (delnth es p.1) c)) r
noncomputable def xUpd (c : CK) (m key v : X) : ExT := fun _ _ R H n k => mapE (m.ev R) H (updM c (key.ev R) (v.ev R)) fun H => k .undef H n
noncomputable def xDel (c : CK) (m key : X) : ExT := fun _ _ R H n k => mapE (m.ev R) H (delM c (key.ev R)) fun H => k (.tup []) H n
noncomputable def xClr (m : X) : ExT := fun _ _ R H n k => mapE (m.ev R) H (fun _ c => some (.map [] c)) fun H => k (.tup []) H n
noncomputable def xCall (f : Nat) (args : List X) : ExT := fun _ call R H n k => call f (mapX args R) H n k
noncomputable def xCallv (x : X) (args : List X) : ExT := fun _ call R H n k => V.onFnP (x.ev R) fun f a c => call f (cat a (cat (mapX args R) c)) H n k
noncomputable def xDefer (dp : P2) (x : X) (args : List X) : ExT := fun _ _ R H n k => V.onFnP (x.ev R) fun f a c => k (.tup (.fn f (cat a (mapX args R)) c :: tupL (odef (T.getp dp R.rg)))) H n
noncomputable def xCvB (x : X) : ExT := fun _ _ R H n k => onO ((x.ev R).onStr fun l c => some (.ptr l c)) fun v => V.onPtrP2 v fun l c =>
  forceP n fun n => k (.gsl n 0 l 1) (T.set H n (.arr 1 l (setEs (bytesL l c) 0 .e))) (Nat.succ n)
noncomputable def AE.ex (o : AE) : ExT := AE.rec (motive := fun _ => ExT) xAsg xSt xApp xCopy xUpd xDel xClr xCall xCallv xDefer xCvB o

noncomputable def setR (p : P2) (v : V) (E : RS) : RS := RS.rec (motive := fun _ => P2 → V → RS) (fun L R p v => .mk L (T.setp v p R)) E p v
noncomputable def pushR (v : V) (E : RS) : RS := RS.rec (motive := fun _ => V → RS) (fun L R v => .mk (v :: L) R) E v
noncomputable def setD (d : Dst) (v : V) : RS → RS := Dst.rec (motive := fun _ => V → RS → RS) (fun _ R => R) setR pushR d v
abbrev KE := RS → Heap → Nat → Prop
abbrev XoT := Roms → CallT → Dst → RS → Heap → Nat → KE → Prop
noncomputable def oN (o : AN) : XoT := fun G _ d R H n k => onV (o.ev G R H) fun v => k (setD d v R) H n
noncomputable def oA (o : AA) : XoT := fun _ _ d R H n k => o.al R fun b f => forceP n fun n => k (setD d (f n) R) (T.set H n b) (Nat.succ n)
noncomputable def oE (o : AE) : XoT := fun G call d R H n k => o.ex G call R H n fun v H n => k (setD d v R) H n
noncomputable def AO.ex (o : AO) : XoT := AO.rec (motive := fun _ => XoT) oN oA oE o
noncomputable def onTst (v : V) (b : Bool) (yes no : Prop) : Prop := v.onBoolP fun t => Bool.rec (motive := fun _ => Prop → Prop → Prop) (fun _ n => n) (fun y _ => y) (beqb t b) yes no
noncomputable def gTst (v : V) : (Bool) → (Prop) → (Prop) → Prop :=
  V.rec (motive_1 := fun _ => (Bool) → (Prop) → (Prop) → Prop) (motive_2 := fun _ => PUnit)
    (fun _ _ _ => False)
    (fun _ _ _ _ _ _ => False)
    (fun a b' yes no => Bool.rec (motive := fun _ => Prop → Prop → Prop) (fun _ n => n) (fun y _ => y) (beqb a b') yes no)
    (fun _ _ _ _ _ => False)
    (fun _ _ _ => False)
    (fun _ _ _ _ _ => False)
    (fun _ _ _ _ _ => False)
    (fun _ _ _ => False)
    (fun _ _ _ _ _ _ _ _ => False)
    (fun _ _ _ _ _ _ _ => False)
    (fun _ _ _ _ _ _ _ _ => False)
    (fun _ _ _ => False)
    (fun _ _ _ _ => False)
    (fun _ _ _ => False)
    (fun _ _ _ _ _ _ _ _ => False)
    (fun _ _ _ _ _ => False)
    (fun a _ _ _ no => List.rec (motive := fun _ => Prop) no (fun _ _ _ => False) a)
    (fun _ _ _ => False)
    (fun _ _ _ _ _ _ => False)
    ⟨⟩ (fun _ _ _ _ => ⟨⟩) v
abbrev XpT := Roms → CallT → RS → Heap → Nat → KE → Prop
noncomputable def gNo (d : Dst) (o : AO) : XpT := fun G call R H n k => o.ex G call d R H n k
noncomputable def gOn (x : X) (b : Bool) (d : Dst) (o : AO) : XpT := fun G call R H n k => gTst (x.ev R) b (o.ex G call d R H n k) (k (setD d (.tup []) R) H n)
noncomputable def AOp.ex (o : AOp) : XpT := AOp.rec (motive := fun _ => XpT) (fun d g o => Gd.rec (motive := fun _ => Dst → AO → XpT) gNo gOn g d o) o
/- do two values agree, to the sign? -/
noncomputable def smInt (v : V) : (IntKind) → (Int) → (Nat) → Bool :=
  V.rec (motive_1 := fun _ => (IntKind) → (Int) → (Nat) → Bool) (motive_2 := fun _ => PUnit)
    (fun _ _ _ => false)
    (fun a b c k n s => band (keq k a) (band (ieq n b) (band (Nat.beq s 0) (Nat.beq c 0))))
    (fun _ _ _ _ => false)
    (fun _ _ _ _ _ => false)
    (fun _ _ _ => false)
    (fun _ _ _ _ _ => false)
    (fun _ _ _ _ _ => false)
    (fun _ _ _ => false)
    (fun _ _ _ _ _ _ _ _ => false)
    (fun _ _ _ _ _ _ _ => false)
    (fun _ _ _ _ _ _ _ _ => false)
    (fun _ _ _ => false)
    (fun _ _ _ _ => false)
    (fun _ _ _ => false)
    (fun _ _ _ _ _ _ _ _ => false)
    (fun _ _ _ _ _ => false)
    (fun _ _ _ _ _ => false)
    (fun _ _ _ => false)
    (fun _ _ _ _ _ _ => false)
    ⟨⟩ (fun _ _ _ _ => ⟨⟩) v
noncomputable def smBool (v : V) : (Bool) → Bool :=
  V.rec (motive_1 := fun _ => (Bool) → Bool) (motive_2 := fun _ => PUnit)
    (fun _ => false)
    (fun _ _ _ _ => false)
    (fun a x => beqb x a)
    (fun _ _ _ => false)
    (fun _ => false)
    (fun _ _ _ => false)
    (fun _ _ _ => false)
    (fun _ => false)
    (fun _ _ _ _ _ _ => false)
    (fun _ _ _ _ _ => false)
    (fun _ _ _ _ _ _ => false)
    (fun _ => false)
    (fun _ _ => false)
    (fun _ => false)
    (fun _ _ _ _ _ _ => false)
    (fun _ _ _ => false)
    (fun _ _ _ => false)
    (fun _ => false)
    (fun _ _ _ _ => false)
    ⟨⟩ (fun _ _ _ _ => ⟨⟩) v
noncomputable def smStr (v : V) : (Nat) → (Nat) → Bool :=
  V.rec (motive_1 := fun _ => (Nat) → (Nat) → Bool) (motive_2 := fun _ => PUnit)
    (fun _ _ => false)
    (fun _ _ _ _ _ => false)
    (fun _ _ _ => false)
    (fun a b l m => band (Nat.beq l a) (Nat.beq m b))
    (fun _ _ => false)
    (fun _ _ _ _ => false)
    (fun _ _ _ _ => false)
    (fun _ _ => false)
    (fun _ _ _ _ _ _ _ => false)
    (fun _ _ _ _ _ _ => false)
    (fun _ _ _ _ _ _ _ => false)
    (fun _ _ => false)
    (fun _ _ _ => false)
    (fun _ _ => false)
    (fun _ _ _ _ _ _ _ => false)
    (fun _ _ _ _ => false)
    (fun _ _ _ _ => false)
    (fun _ _ => false)
    (fun _ _ _ _ _ => false)
    ⟨⟩ (fun _ _ _ _ => ⟨⟩) v
noncomputable def sm_nilp (v : V) : Bool :=
  V.rec (motive_1 := fun _ => Bool) (motive_2 := fun _ => PUnit)
    (false)
    (fun _ _ _ => false)
    (fun _ => false)
    (fun _ _ => false)
    (true)
    (fun _ _ => false)
    (fun _ _ => false)
    (false)
    (fun _ _ _ _ _ => false)
    (fun _ _ _ _ => false)
    (fun _ _ _ _ _ => false)
    (false)
    (fun _ => false)
    (false)
    (fun _ _ _ _ _ => false)
    (fun _ _ => false)
    (fun _ _ => false)
    (false)
    (fun _ _ _ => false)
    ⟨⟩ (fun _ _ _ _ => ⟨⟩) v
noncomputable def sm_nils (v : V) : Bool :=
  V.rec (motive_1 := fun _ => Bool) (motive_2 := fun _ => PUnit)
    (false)
    (fun _ _ _ => false)
    (fun _ => false)
    (fun _ _ => false)
    (false)
    (fun _ _ => false)
    (fun _ _ => false)
    (true)
    (fun _ _ _ _ _ => false)
    (fun _ _ _ _ => false)
    (fun _ _ _ _ _ => false)
    (false)
    (fun _ => false)
    (false)
    (fun _ _ _ _ _ => false)
    (fun _ _ => false)
    (fun _ _ => false)
    (false)
    (fun _ _ _ => false)
    ⟨⟩ (fun _ _ _ _ => ⟨⟩) v
noncomputable def sm_nilm (v : V) : Bool :=
  V.rec (motive_1 := fun _ => Bool) (motive_2 := fun _ => PUnit)
    (false)
    (fun _ _ _ => false)
    (fun _ => false)
    (fun _ _ => false)
    (false)
    (fun _ _ => false)
    (fun _ _ => false)
    (false)
    (fun _ _ _ _ _ => false)
    (fun _ _ _ _ => false)
    (fun _ _ _ _ _ => false)
    (true)
    (fun _ => false)
    (false)
    (fun _ _ _ _ _ => false)
    (fun _ _ => false)
    (fun _ _ => false)
    (false)
    (fun _ _ _ => false)
    ⟨⟩ (fun _ _ _ _ => ⟨⟩) v
noncomputable def sm_nilf (v : V) : Bool :=
  V.rec (motive_1 := fun _ => Bool) (motive_2 := fun _ => PUnit)
    (false)
    (fun _ _ _ => false)
    (fun _ => false)
    (fun _ _ => false)
    (false)
    (fun _ _ => false)
    (fun _ _ => false)
    (false)
    (fun _ _ _ _ _ => false)
    (fun _ _ _ _ => false)
    (fun _ _ _ _ _ => false)
    (false)
    (fun _ => false)
    (true)
    (fun _ _ _ _ _ => false)
    (fun _ _ => false)
    (fun _ _ => false)
    (false)
    (fun _ _ _ => false)
    ⟨⟩ (fun _ _ _ _ => ⟨⟩) v
noncomputable def smPtr (v : V) : (Nat) → (Nat) → Bool :=
  V.rec (motive_1 := fun _ => (Nat) → (Nat) → Bool) (motive_2 := fun _ => PUnit)
    (fun _ _ => false)
    (fun _ _ _ _ _ => false)
    (fun _ _ _ => false)
    (fun _ _ _ _ => false)
    (fun _ _ => false)
    (fun a b l m => band (Nat.beq l a) (Nat.beq m b))
    (fun _ _ _ _ => false)
    (fun _ _ => false)
    (fun _ _ _ _ _ _ _ => false)
    (fun _ _ _ _ _ _ => false)
    (fun _ _ _ _ _ _ _ => false)
    (fun _ _ => false)
    (fun _ _ _ => false)
    (fun _ _ => false)
    (fun _ _ _ _ _ _ _ => false)
    (fun _ _ _ _ => false)
    (fun _ _ _ _ => false)
    (fun _ _ => false)
    (fun _ _ _ _ _ => false)
    ⟨⟩ (fun _ _ _ _ => ⟨⟩) v
noncomputable def smGptr (v : V) : (Nat) → (Nat) → Bool :=
  V.rec (motive_1 := fun _ => (Nat) → (Nat) → Bool) (motive_2 := fun _ => PUnit)
    (fun _ _ => false)
    (fun _ _ _ _ _ => false)
    (fun _ _ _ => false)
    (fun _ _ _ _ => false)
    (fun _ _ => false)
    (fun _ _ _ _ => false)
    (fun a b l m => band (Nat.beq l a) (Nat.beq m b))
    (fun _ _ => false)
    (fun _ _ _ _ _ _ _ => false)
    (fun _ _ _ _ _ _ => false)
    (fun _ _ _ _ _ _ _ => false)
    (fun _ _ => false)
    (fun _ _ _ => false)
    (fun _ _ => false)
    (fun _ _ _ _ _ _ _ => false)
    (fun _ _ _ _ => false)
    (fun _ _ _ _ => false)
    (fun _ _ => false)
    (fun _ _ _ _ _ => false)
    ⟨⟩ (fun _ _ _ _ => ⟨⟩) v
noncomputable def smMap (v : V) : (Nat) → Bool :=
  V.rec (motive_1 := fun _ => (Nat) → Bool) (motive_2 := fun _ => PUnit)
    (fun _ => false)
    (fun _ _ _ _ => false)
    (fun _ _ => false)
    (fun _ _ _ => false)
    (fun _ => false)
    (fun _ _ _ => false)
    (fun _ _ _ => false)
    (fun _ => false)
    (fun _ _ _ _ _ _ => false)
    (fun _ _ _ _ _ => false)
    (fun _ _ _ _ _ _ => false)
    (fun _ => false)
    (fun a l => Nat.beq l a)
    (fun _ => false)
    (fun _ _ _ _ _ _ => false)
    (fun _ _ _ => false)
    (fun _ _ _ => false)
    (fun _ => false)
    (fun _ _ _ _ => false)
    ⟨⟩ (fun _ _ _ _ => ⟨⟩) v
noncomputable def smSl (v : V) : (Nat) → (Nat) → (Nat) → (Nat) → (Nat) → Bool :=
  V.rec (motive_1 := fun _ => (Nat) → (Nat) → (Nat) → (Nat) → (Nat) → Bool) (motive_2 := fun _ => PUnit)
    (fun _ _ _ _ _ => false)
    (fun _ _ _ _ _ _ _ _ => false)
    (fun _ _ _ _ _ _ => false)
    (fun _ _ _ _ _ _ _ => false)
    (fun _ _ _ _ _ => false)
    (fun _ _ _ _ _ _ _ => false)
    (fun _ _ _ _ _ _ _ => false)
    (fun _ _ _ _ _ => false)
    (fun a b c d e i j k l m => band (Nat.beq i a) (band (Nat.beq j b) (band (Nat.beq k c) (band (Nat.beq l d) (Nat.beq m e)))))
    (fun _ _ _ _ _ _ _ _ _ => false)
    (fun _ _ _ _ _ _ _ _ _ _ => false)
    (fun _ _ _ _ _ => false)
    (fun _ _ _ _ _ _ => false)
    (fun _ _ _ _ _ => false)
    (fun _ _ _ _ _ _ _ _ _ _ => false)
    (fun _ _ _ _ _ _ _ => false)
    (fun _ _ _ _ _ _ _ => false)
    (fun _ _ _ _ _ => false)
    (fun _ _ _ _ _ _ _ _ => false)
    ⟨⟩ (fun _ _ _ _ => ⟨⟩) v
noncomputable def smGsl (v : V) : (Nat) → (Nat) → (Nat) → (Nat) → Bool :=
  V.rec (motive_1 := fun _ => (Nat) → (Nat) → (Nat) → (Nat) → Bool) (motive_2 := fun _ => PUnit)
    (fun _ _ _ _ => false)
    (fun _ _ _ _ _ _ _ => false)
    (fun _ _ _ _ _ => false)
    (fun _ _ _ _ _ _ => false)
    (fun _ _ _ _ => false)
    (fun _ _ _ _ _ _ => false)
    (fun _ _ _ _ _ _ => false)
    (fun _ _ _ _ => false)
    (fun _ _ _ _ _ _ _ _ _ => false)
    (fun a b c d i j k l => band (Nat.beq i a) (band (Nat.beq j b) (band (Nat.beq k c) (Nat.beq l d))))
    (fun _ _ _ _ _ _ _ _ _ => false)
    (fun _ _ _ _ => false)
    (fun _ _ _ _ _ => false)
    (fun _ _ _ _ => false)
    (fun _ _ _ _ _ _ _ _ _ => false)
    (fun _ _ _ _ _ _ => false)
    (fun _ _ _ _ _ _ => false)
    (fun _ _ _ _ => false)
    (fun _ _ _ _ _ _ _ => false)
    ⟨⟩ (fun _ _ _ _ => ⟨⟩) v
noncomputable def smRsl (v : V) : (Nat) → (Nat) → (Nat) → (Nat) → (Nat) → Bool :=
  V.rec (motive_1 := fun _ => (Nat) → (Nat) → (Nat) → (Nat) → (Nat) → Bool) (motive_2 := fun _ => PUnit)
    (fun _ _ _ _ _ => false)
    (fun _ _ _ _ _ _ _ _ => false)
    (fun _ _ _ _ _ _ => false)
    (fun _ _ _ _ _ _ _ => false)
    (fun _ _ _ _ _ => false)
    (fun _ _ _ _ _ _ _ => false)
    (fun _ _ _ _ _ _ _ => false)
    (fun _ _ _ _ _ => false)
    (fun _ _ _ _ _ _ _ _ _ _ => false)
    (fun _ _ _ _ _ _ _ _ _ => false)
    (fun a b c d e i j k l m => band (Nat.beq i a) (band (Nat.beq j b) (band (Nat.beq k c) (band (Nat.beq l d) (Nat.beq m e)))))
    (fun _ _ _ _ _ => false)
    (fun _ _ _ _ _ _ => false)
    (fun _ _ _ _ _ => false)
    (fun _ _ _ _ _ _ _ _ _ _ => false)
    (fun _ _ _ _ _ _ _ => false)
    (fun _ _ _ _ _ _ _ => false)
    (fun _ _ _ _ _ => false)
    (fun _ _ _ _ _ _ _ _ => false)
    ⟨⟩ (fun _ _ _ _ => ⟨⟩) v
noncomputable def vsame1 (v : V) : (V) → Bool :=
  V.rec (motive_1 := fun _ => (V) → Bool) (motive_2 := fun _ => PUnit)
    (fun _ => false)
    (fun a b c y => smInt y a b c)
    (fun a y => smBool y a)
    (fun a b y => smStr y a b)
    (fun y => sm_nilp y)
    (fun a b y => smPtr y a b)
    (fun a b y => smGptr y a b)
    (fun y => sm_nils y)
    (fun a b c d e y => smSl y a b c d e)
    (fun a b c d y => smGsl y a b c d)
    (fun a b c d e y => smRsl y a b c d e)
    (fun y => sm_nilm y)
    (fun a y => smMap y a)
    (fun y => sm_nilf y)
    (fun _ _ _ _ _ _ => false)
    (fun _ _ _ => false)
    (fun _ _ _ => false)
    (fun _ => false)
    (fun _ _ _ _ => false)
    ⟨⟩ (fun _ _ _ _ => ⟨⟩) v

noncomputable def vsameL (a : List V) : List V → Bool :=
  List.rec (motive := fun _ => List V → Bool) (fun b => List.rec (motive := fun _ => Bool) true (fun _ _ _ => false) b)
    (fun x _ g b => List.rec (motive := fun _ => Bool) false (fun y ys _ => band (vsame1 x y) (g ys)) b) a
noncomputable def smAgg (v : V) : (LV) → Bool :=
  V.rec (motive_1 := fun _ => (LV) → Bool) (motive_2 := fun _ => PUnit)
    (fun _ => false)
    (fun _ _ _ _ => false)
    (fun _ _ => false)
    (fun _ _ _ => false)
    (fun _ => false)
    (fun _ _ _ => false)
    (fun _ _ _ => false)
    (fun _ => false)
    (fun _ _ _ _ _ _ => false)
    (fun _ _ _ _ _ => false)
    (fun _ _ _ _ _ _ => false)
    (fun _ => false)
    (fun _ _ => false)
    (fun _ => false)
    (fun _ _ _ _ _ _ => false)
    (fun a _ l => vsameL l a)
    (fun _ _ _ => false)
    (fun _ => false)
    (fun _ _ _ _ => false)
    ⟨⟩ (fun _ _ _ _ => ⟨⟩) v
noncomputable def smTup (v : V) : (LV) → Bool :=
  V.rec (motive_1 := fun _ => (LV) → Bool) (motive_2 := fun _ => PUnit)
    (fun _ => false)
    (fun _ _ _ _ => false)
    (fun _ _ => false)
    (fun _ _ _ => false)
    (fun _ => false)
    (fun _ _ _ => false)
    (fun _ _ _ => false)
    (fun _ => false)
    (fun _ _ _ _ _ _ => false)
    (fun _ _ _ _ _ => false)
    (fun _ _ _ _ _ _ => false)
    (fun _ => false)
    (fun _ _ => false)
    (fun _ => false)
    (fun _ _ _ _ _ _ => false)
    (fun _ _ _ => false)
    (fun a _ l => vsameL l a)
    (fun _ => false)
    (fun _ _ _ _ => false)
    ⟨⟩ (fun _ _ _ _ => ⟨⟩) v
noncomputable def sm_undef (v : V) : Bool :=
  V.rec (motive_1 := fun _ => Bool) (motive_2 := fun _ => PUnit)
    (true)
    (fun _ _ _ => false)
    (fun _ => false)
    (fun _ _ => false)
    (false)
    (fun _ _ => false)
    (fun _ _ => false)
    (false)
    (fun _ _ _ _ _ => false)
    (fun _ _ _ _ => false)
    (fun _ _ _ _ _ => false)
    (false)
    (fun _ => false)
    (false)
    (fun _ _ _ _ _ => false)
    (fun _ _ => false)
    (fun _ _ => false)
    (false)
    (fun _ _ _ => false)
    ⟨⟩ (fun _ _ _ _ => ⟨⟩) v
noncomputable def vsame (v : V) : (V) → Bool :=
  V.rec (motive_1 := fun _ => (V) → Bool) (motive_2 := fun _ => PUnit)
    (fun y => sm_undef y)
    (fun a b c y => smInt y a b c)
    (fun a y => smBool y a)
    (fun a b y => smStr y a b)
    (fun y => sm_nilp y)
    (fun a b y => smPtr y a b)
    (fun a b y => smGptr y a b)
    (fun y => sm_nils y)
    (fun a b c d e y => smSl y a b c d e)
    (fun a b c d y => smGsl y a b c d)
    (fun a b c d e y => smRsl y a b c d e)
    (fun y => sm_nilm y)
    (fun a y => smMap y a)
    (fun y => sm_nilf y)
    (fun _ _ _ _ _ _ => false)
    (fun a _ y => smAgg y a)
    (fun a _ y => smTup y a)
    (fun _ => false)
    (fun _ _ _ _ => false)
    ⟨⟩ (fun _ _ _ _ => ⟨⟩) v

/- code: ops: a list in the text's order; reg: a region whose order is open: its operations in an order of ours, with marks: behind an operation that acts, those that look at memory and may come later are looked at again -/
inductive AI where
  | op (o : AOp)
  | re (d : P2) (g : Gd) (o : AN)
inductive AC where
  | skip
  | ops (l : List AOp)
  | reg (l : List AI)
  | seq (a b : AC)
  | cond (x : X) (a b : AC)
  | block (id : Nat) (c : AC)
  | loop (c : AC)
  | exit (id : Nat)
  | ret
noncomputable def exOps (l : List AOp) : XpT :=
  List.rec (motive := fun _ => XpT) (fun _ _ R H n k => k R H n) (fun o _ g G call R H n k => o.ex G call R H n fun R H n => g G call R H n k) l
abbrev ReT := Roms → RS → Heap → P2 → AN → Prop → Prop
noncomputable def reNo : ReT := fun G R H d o k => onV (o.ev G R H) fun v => onB (vsame v (odef (T.getp d R.rg))) k
noncomputable def reOn (x : X) (b : Bool) : ReT := fun G R H d o k => gTst (x.ev R) b (onV (o.ev G R H) fun v => onB (vsame v (odef (T.getp d R.rg))) k) k
noncomputable def exRe (g : Gd) : ReT := Gd.rec (motive := fun _ => ReT) reNo reOn g
noncomputable def AI.ex (i : AI) : XpT := AI.rec (motive := fun _ => XpT) (fun o => o.ex) (fun d g o G _ R H n k => exRe g G R H d o (k R H n)) i
noncomputable def exItems (l : List AI) : XpT :=
  List.rec (motive := fun _ => XpT) (fun _ _ R H n k => k R H n) (fun i _ g G call R H n k => i.ex G call R H n fun R H n => g G call R H n k) l
abbrev KX := Nat → K
abbrev M := Roms → CallT → Nat → Regs → Heap → Nat → K → KX → K → Prop
noncomputable def skipM : M := fun _ _ _ R H n k _ _ => k R H n
noncomputable def opsM (l : List AOp) : M := fun G call _ R H n k _ _ => exOps l G call (.mk [] R) H n fun E H n => k E.rg H n
noncomputable def regM (l : List AI) : M := fun G call _ R H n k _ _ => exItems l G call (.mk [] R) H n fun E H n => k E.rg H n
noncomputable def seqM (_ _ : AC) (a b : M) : M := fun G call lf R H n k x r => a G call lf R H n (fun R H n => b G call lf R H n k x r) x r
noncomputable def condM (c : X) (_ _ : AC) (a b : M) : M := fun G call lf R H n k x r => onTst (c.ev (.mk [] R)) true (a G call lf R H n k x r) (b G call lf R H n k x r)
noncomputable def blockX (id : Nat) (k : K) (x : KX) : KX := fun i R H n => Bool.rec (motive := fun _ => Prop → Prop → Prop) (fun a _ => a) (fun _ b => b) (Nat.beq i id) (x i R H n) (k R H n)
noncomputable def blockM (id : Nat) (_ : AC) (a : M) : M := fun G call lf R H n k x r => a G call lf R H n k (blockX id k x) r
noncomputable def loopF (a : M) (G : Roms) (call : CallT) (lf0 lf : Nat) : Regs → Heap → Nat → KX → K → Prop :=
  Nat.rec (motive := fun _ => Regs → Heap → Nat → KX → K → Prop) (fun _ _ _ _ _ => False) (fun _ g R H n x r => a G call lf0 R H n (fun R H n => g R H n x r) x r) lf
noncomputable def loopM (_ : AC) (a : M) : M := fun G call lf R H n _ x r => loopF a G call lf lf R H n x r
noncomputable def exitM (id : Nat) : M := fun _ _ _ R H n _ x _ => x id R H n
noncomputable def retM : M := fun _ _ _ R H n _ _ r => r R H n
noncomputable def AC.ex (c : AC) : M := AC.rec (motive := fun _ => M) skipM opsM regM seqM condM blockM loopM exitM retM c

/- functions: body, results (a register; or n cells behind a pointer), the register of deferred calls -/
inductive AR where
  | tmp (p : P2) | cell1 (p : P2) | celln (p : P2) (n : Nat)
/- functions of Go's library that are known by what they do -/
inductive Nk where
  | join | rep | wstr (t e : Nat) | bstr (t e : Nat)
inductive AF where
  | mk (np : Nat) (code : AC) (res : List AR) (dp : Dst) (dg : Nat)
  | nat (k : Nk)
noncomputable def AR.get (r : AR) : Roms → Regs → Heap → Option V :=
  AR.rec (motive := fun _ => Roms → Regs → Heap → Option V) (fun p _ R _ => some (odef (T.getp p R))) (fun p G R H => lbind (ldP (odef (T.getp p R)) G H 1) fun L => nth L 0)
    (fun p n G R H => lbind (ldP (odef (T.getp p R)) G H n) fun L => some (.agg L)) r
noncomputable def getRs (l : List AR) : Roms → Regs → Heap → Option LV :=
  List.rec (motive := fun _ => Roms → Regs → Heap → Option LV) (fun _ _ _ => some []) (fun r _ g G R H => gbind (r.get G R H) fun v => gbind (g G R H) fun vs => some (v :: vs)) l
noncomputable def oneV (l : List V) : V := List.rec (motive := fun _ => V) (V.tup []) (fun v vs _ => List.rec (motive := fun _ => V) v (fun w ws _ => V.tup (v :: w :: ws)) vs) l
noncomputable def initR (args : List V) : Nat → Regs → Regs :=
  List.rec (motive := fun _ => Nat → Regs → Regs) (fun _ R => R) (fun v _ g i R => g (Nat.succ i) (T.set R i v)) args
noncomputable def exDef (dg : Nat) (l : List V) : CallT → Heap → Nat → (Heap → Nat → Prop) → Prop :=
  List.rec (motive := fun _ => CallT → Heap → Nat → (Heap → Nat → Prop) → Prop) (fun _ H n k => k H n)
    (fun v _ g call H n k => V.onFnP v fun f a c => onB (Nat.beq f dg) (call f (cat a c) H n fun _ H n => g call H n k)) l
noncomputable def finR (res : List AR) (G : Roms) (k : KV) : K := fun R H n => onO (getRs res G R H) fun l => k (oneV l) H n
noncomputable def exFin (res : List AR) (dg : Nat) (d : Dst) : Roms → CallT → KV → K :=
  Dst.rec (motive := fun _ => Roms → CallT → KV → K) (fun G _ k => finR res G k) (fun p G call k R H n => exDef dg (tupL (odef (T.getp p R))) call H n fun H n => finR res G k R H n) (fun G _ k => finR res G k) d
/- strings by their lengths and numbers -/
def catN (p q : Nat × Nat) : Nat × Nat := (p.1 + q.1, p.2 + 256 ^ p.1 * q.2)
def strsN : LLV → Option (List (Nat × Nat))
  | [] => some []
  | [.str l c] :: r => match strsN r with | some x => some ((l, c) :: x) | none => none
  | _ :: _ => none
def joinN (s : Nat × Nat) : List (Nat × Nat) → Nat × Nat
  | [] => (0, 0)
  | a :: r => r.foldl (fun p q => catN (catN p s) q) a
def repN (s : Nat × Nat) : Nat → Nat × Nat
  | 0 => (0, 0)
  | n + 1 => catN s (repN s n)
def bigN : Nat := 140737488355328
noncomputable def natJoin (x y : V) (G : Roms) (H : Heap) (n : Nat) (k : KV) : Prop :=
  match y with
  | .str sl sc => onB (bnot (isStr x)) <| onO (elems x G H 1) fun LS => onO (strsN LS) fun ss => onB (decide (ss.length ≤ bigN ∧ (joinN (sl, sc) ss).1 ≤ bigN)) (k (.str (joinN (sl, sc) ss).1 (joinN (sl, sc) ss).2) H n)
  | _ => False
noncomputable def natRep (x y : V) (H : Heap) (n : Nat) (k : KV) : Prop :=
  match x, y with
  | .str l c, .int .i64 (.ofNat m) _ => onB (decide (m ≤ 9223372036854775807 ∧ l * m ≤ bigN)) (k (.str (repN (l, c) m).1 (repN (l, c) m).2) H n)
  | _, _ => False
noncomputable def natWstr (t e : Nat) (x y : V) (H : Heap) (n : Nat) (k : KV) : Prop :=
  match x, y with
  | .ptr id 0, .str m d => (match T.get H id with
    | some (.bld t' e' l c j) => onB (decide (t' = t ∧ e' = e ∧ l + m ≤ bigN)) (k (.tup [.int .i64 (.ofNat m) 0, .nili]) (T.set (T.set (bif decide (l = 0) then H else T.set H j .dead) n (.own id)) id (.bld t e (catN (l, c) (m, d)).1 (catN (l, c) (m, d)).2 n)) (n + 1))
    | _ => False)
  | _, _ => False
noncomputable def natBstr (t e : Nat) (x : V) (H : Heap) (n : Nat) (k : KV) : Prop :=
  match x with
  | .ptr id 0 => (match T.get H id with
    | some (.bld t' e' l c _) => onB (decide (t' = t ∧ e' = e)) (k (.str l c) (T.set H id .dead) n)
    | _ => False)
  | _ => False
noncomputable def natSem (f : Nk) (G : Roms) (args : List V) (H : Heap) (n : Nat) (k : KV) : Prop :=
  match f, args with
  | .join, [x, y] => natJoin x y G H n k
  | .rep, [x, y] => natRep x y H n k
  | .wstr t e, [x, y] => natWstr t e x y H n k
  | .bstr t e, [x] => natBstr t e x H n k
  | _, _ => False
noncomputable def noX : KX := fun _ _ _ _ => False
noncomputable def exFun (f : AF) : Roms → CallT → Nat → List V → Heap → Nat → KV → Prop :=
  AF.rec (motive := fun _ => Roms → CallT → Nat → List V → Heap → Nat → KV → Prop) (fun np code res d dg G call lf args H n k => onB (Nat.beq (len args) np) (code.ex G call lf (initR args 0 .e) H n (exFin res dg d G call k) noX (exFin res dg d G call k))) (fun f G _ _ args H n k => natSem f G args H n k) f
noncomputable def run (F : T AF) (G : Roms) (lf : Nat) (fuel : Nat) : CallT :=
  Nat.rec (motive := fun _ => CallT) (fun _ _ _ _ _ => False) (fun _ call f args H n k => onO (T.get F f) fun af => exFun af G call lf args H n k) fuel
end Go.Eng

