/- Part of a proof: texts En1 En2 of the engine and what is proved with it; nothing is assumed. -/
import Derived.Calls
import Derived.Defers
import Derived.Orders
import Derived.KernelRfl
import Derived.Laws.Entries
set_option linter.unusedVariables false
set_option linter.unusedSimpArgs false
noncomputable section
namespace Go.Ba
inductive P2 where
 | h | z (p : P2) | o (p : P2)
deriving DecidableEq
inductive T (α : Type) where
 | e | n (v : Option α) (l r : T α)
def T.val {α : Type} (t : T α) : Option α := T.rec none (fun v _ _ _ _ => v) t
def T.left {α : Type} (t : T α) : T α := T.rec .e (fun _ l _ _ _ => l) t
def T.right {α : Type} (t : T α) : T α := T.rec .e (fun _ _ r _ _ => r) t
def T.C9 {α : Type} (p : P2) : T α -> Option α :=
 P2.rec (motive := fun _ => T α -> Option α) T.val (fun _ g t => g t.left) (fun _ g t => g t.right) p
def T.Xq {α : Type} (x : α) (p : P2) : T α -> T α :=
 P2.rec (motive := fun _ => T α -> T α) (fun t => .n (some x) t.left t.right)
  (fun _ g t => .n t.val (g t.left) t.right) (fun _ g t => .n t.val t.left (g t.right)) p
def AFG (f : Nat) : Nat -> P2 :=
 Nat.rec (motive := fun _ => Nat -> P2) (fun _ => .h)
  (fun _ g k => Nat.rec (motive := fun _ => P2) .h
   (fun m _ => Bool.rec (P2.o (g (Nat.div m 2))) (P2.z (g (Nat.div m 2))) (Nat.beq (Nat.mod m 2) 0)) k) f
def MN (k : Nat) : P2 := AFG (Nat.succ k) k
def T.get {α : Type} (t : T α) (k : Nat) : Option α := T.C9 (MN k) t
def T.set {α : Type} (t : T α) (k : Nat) (x : α) : T α := T.Xq x (MN k) t
inductive V where
 | undef
 | int (k : IntKind) (n : Int) (s : Nat)
 | bool (b : Bool)
 | str (len code : Nat)
 | KI | ptr (id off : Nat) | gptr (b off : Nat)
 | Aa | sl (id off len cap esz : Nat) | NM (id off len esz : Nat) | rsl (b off len cap esz : Nat)
 | wQ | map (id : Nat)
 | AIy | fn (f : Nat) (first caps : List V)
 | agg (cs : List V)
 | II (vs : List V)
 | AKD | iface (t : Nat) (v : V)
inductive Nh where
 | arr (esz cnt : Nat) (c : T (List V))
 | map (es : List (V × V × Nat)) (clock : Nat)
 | dead
abbrev Heap := T Nh
abbrev G6 := T V
abbrev AL := Nat -> Nat -> Nat -> Option (List V)
inductive X where
 | r (p : P2) | c (v : V) | s (i : Nat)
def KJ (o : Option V) : V := Option.rec V.undef (fun v => v) o
def AGe (l : List V) : Nat -> V :=
 List.rec (motive := fun _ => Nat -> V) (fun _ => .undef) (fun x _ g i => Nat.rec (motive := fun _ => V) x (fun i _ => g i) i) l
inductive RS where
 | mk (L : List V) (R : G6)
def RS.st (E : RS) : List V := RS.rec (fun L _ => L) E
def RS.rg (E : RS) : G6 := RS.rec (fun _ R => R) E
def X.ev (x : X) : RS -> V := X.rec (motive := fun _ => RS -> V) (fun p E => KJ (T.C9 p E.rg)) (fun v _ => v) (fun i E => AGe E.st i) x
def V.GU (v : V) : (IntKind -> Int -> Nat -> Option V) -> Option V :=
 V.rec (motive_1 := fun _ => (IntKind -> Int -> Nat -> Option V) -> Option V) (motive_2 := fun _ => PUnit)
  (fun _ => none)
  (fun a b c f => f a b c)
  (fun _ _ => none)
  (fun _ _ _ => none)
  (fun _ => none)
  (fun _ _ _ => none)
  (fun _ _ _ => none)
  (fun _ => none)
  (fun _ _ _ _ _ _ => none)
  (fun _ _ _ _ _ => none)
  (fun _ _ _ _ _ _ => none)
  (fun _ => none)
  (fun _ _ => none)
  (fun _ => none)
  (fun _ _ _ _ _ _ => none)
  (fun _ _ _ => none)
  (fun _ _ _ => none)
  (fun _ => none)
  (fun _ _ _ _ => none)
  ⟨⟩ (fun _ _ _ _ => ⟨⟩) v
def V.bF (v : V) : (Bool -> Option V) -> Option V :=
 V.rec (motive_1 := fun _ => (Bool -> Option V) -> Option V) (motive_2 := fun _ => PUnit)
  (fun _ => none)
  (fun _ _ _ _ => none)
  (fun a f => f a)
  (fun _ _ _ => none)
  (fun _ => none)
  (fun _ _ _ => none)
  (fun _ _ _ => none)
  (fun _ => none)
  (fun _ _ _ _ _ _ => none)
  (fun _ _ _ _ _ => none)
  (fun _ _ _ _ _ _ => none)
  (fun _ => none)
  (fun _ _ => none)
  (fun _ => none)
  (fun _ _ _ _ _ _ => none)
  (fun _ _ _ => none)
  (fun _ _ _ => none)
  (fun _ => none)
  (fun _ _ _ _ => none)
  ⟨⟩ (fun _ _ _ _ => ⟨⟩) v
def V.AAy (v : V) : (Bool -> Prop) -> Prop :=
 V.rec (motive_1 := fun _ => (Bool -> Prop) -> Prop) (motive_2 := fun _ => PUnit)
  (fun _ => False)
  (fun _ _ _ _ => False)
  (fun a f => f a)
  (fun _ _ _ => False)
  (fun _ => False)
  (fun _ _ _ => False)
  (fun _ _ _ => False)
  (fun _ => False)
  (fun _ _ _ _ _ _ => False)
  (fun _ _ _ _ _ => False)
  (fun _ _ _ _ _ _ => False)
  (fun _ => False)
  (fun _ _ => False)
  (fun _ => False)
  (fun _ _ _ _ _ _ => False)
  (fun _ _ _ => False)
  (fun _ _ _ => False)
  (fun _ => False)
  (fun _ _ _ _ => False)
  ⟨⟩ (fun _ _ _ _ => ⟨⟩) v
def V.QN (v : V) : (Nat -> Nat -> Option V) -> Option V :=
 V.rec (motive_1 := fun _ => (Nat -> Nat -> Option V) -> Option V) (motive_2 := fun _ => PUnit)
  (fun _ => none)
  (fun _ _ _ _ => none)
  (fun _ _ => none)
  (fun a b f => f a b)
  (fun _ => none)
  (fun _ _ _ => none)
  (fun _ _ _ => none)
  (fun _ => none)
  (fun _ _ _ _ _ _ => none)
  (fun _ _ _ _ _ => none)
  (fun _ _ _ _ _ _ => none)
  (fun _ => none)
  (fun _ _ => none)
  (fun _ => none)
  (fun _ _ _ _ _ _ => none)
  (fun _ _ _ => none)
  (fun _ _ _ => none)
  (fun _ => none)
  (fun _ _ _ _ => none)
  ⟨⟩ (fun _ _ _ _ => ⟨⟩) v
def V.nS (v : V) : (List V -> Option V) -> Option V :=
 V.rec (motive_1 := fun _ => (List V -> Option V) -> Option V) (motive_2 := fun _ => PUnit)
  (fun _ => none)
  (fun _ _ _ _ => none)
  (fun _ _ => none)
  (fun _ _ _ => none)
  (fun _ => none)
  (fun _ _ _ => none)
  (fun _ _ _ => none)
  (fun _ => none)
  (fun _ _ _ _ _ _ => none)
  (fun _ _ _ _ _ => none)
  (fun _ _ _ _ _ _ => none)
  (fun _ => none)
  (fun _ _ => none)
  (fun _ => none)
  (fun _ _ _ _ _ _ => none)
  (fun a _ f => f a)
  (fun _ _ _ => none)
  (fun _ => none)
  (fun _ _ _ _ => none)
  ⟨⟩ (fun _ _ _ _ => ⟨⟩) v
def V.ACF (v : V) : (List V -> Option V) -> Option V :=
 V.rec (motive_1 := fun _ => (List V -> Option V) -> Option V) (motive_2 := fun _ => PUnit)
  (fun _ => none)
  (fun _ _ _ _ => none)
  (fun _ _ => none)
  (fun _ _ _ => none)
  (fun _ => none)
  (fun _ _ _ => none)
  (fun _ _ _ => none)
  (fun _ => none)
  (fun _ _ _ _ _ _ => none)
  (fun _ _ _ _ _ => none)
  (fun _ _ _ _ _ _ => none)
  (fun _ => none)
  (fun _ _ => none)
  (fun _ => none)
  (fun _ _ _ _ _ _ => none)
  (fun _ _ _ => none)
  (fun a _ f => f a)
  (fun _ => none)
  (fun _ _ _ _ => none)
  ⟨⟩ (fun _ _ _ _ => ⟨⟩) v
def V.ACi (v : V) : (Nat -> Nat -> Option V) -> (Nat -> Nat -> Option V) -> Option V :=
 V.rec (motive_1 := fun _ => (Nat -> Nat -> Option V) -> (Nat -> Nat -> Option V) -> Option V) (motive_2 := fun _ => PUnit)
  (fun _ _ => none)
  (fun _ _ _ _ _ => none)
  (fun _ _ _ => none)
  (fun _ _ _ _ => none)
  (fun _ _ => none)
  (fun a b f _ => f a b)
  (fun a b _ g => g a b)
  (fun _ _ => none)
  (fun _ _ _ _ _ _ _ => none)
  (fun _ _ _ _ _ _ => none)
  (fun _ _ _ _ _ _ _ => none)
  (fun _ _ => none)
  (fun _ _ _ => none)
  (fun _ _ => none)
  (fun _ _ _ _ _ _ _ => none)
  (fun _ _ _ _ => none)
  (fun _ _ _ _ => none)
  (fun _ _ => none)
  (fun _ _ _ _ _ => none)
  ⟨⟩ (fun _ _ _ _ => ⟨⟩) v
def V.AC9 (v : V) : (Option V) -> (Nat -> Option V) -> Option V :=
 V.rec (motive_1 := fun _ => (Option V) -> (Nat -> Option V) -> Option V) (motive_2 := fun _ => PUnit)
  (fun _ _ => none)
  (fun _ _ _ _ _ => none)
  (fun _ _ _ => none)
  (fun _ _ _ _ => none)
  (fun _ _ => none)
  (fun _ _ _ _ => none)
  (fun _ _ _ _ => none)
  (fun _ _ => none)
  (fun _ _ _ _ _ _ _ => none)
  (fun _ _ _ _ _ _ => none)
  (fun _ _ _ _ _ _ _ => none)
  (fun z _ => z)
  (fun a _ f => f a)
  (fun _ _ => none)
  (fun _ _ _ _ _ _ _ => none)
  (fun _ _ _ _ => none)
  (fun _ _ _ _ => none)
  (fun _ _ => none)
  (fun _ _ _ _ _ => none)
  ⟨⟩ (fun _ _ _ _ => ⟨⟩) v
def V.AKf (v : V) : (Option V) -> (Nat -> Nat -> Nat -> Nat -> Nat -> Option V) -> (Nat -> Nat -> Nat -> Nat -> Option V) -> (Nat -> Nat -> Nat -> Nat -> Nat -> Option V) -> Option V :=
 V.rec (motive_1 := fun _ => (Option V) -> (Nat -> Nat -> Nat -> Nat -> Nat -> Option V) -> (Nat -> Nat -> Nat -> Nat -> Option V) -> (Nat -> Nat -> Nat -> Nat -> Nat -> Option V) -> Option V) (motive_2 := fun _ => PUnit)
  (fun _ _ _ _ => none)
  (fun _ _ _ _ _ _ _ => none)
  (fun _ _ _ _ _ => none)
  (fun _ _ _ _ _ _ => none)
  (fun _ _ _ _ => none)
  (fun _ _ _ _ _ _ => none)
  (fun _ _ _ _ _ _ => none)
  (fun z _ _ _ => z)
  (fun a b c d e _ f _ _ => f a b c d e)
  (fun a b c d _ _ g _ => g a b c d)
  (fun a b c d e _ _ _ h => h a b c d e)
  (fun _ _ _ _ => none)
  (fun _ _ _ _ _ => none)
  (fun _ _ _ _ => none)
  (fun _ _ _ _ _ _ _ _ _ => none)
  (fun _ _ _ _ _ _ => none)
  (fun _ _ _ _ _ _ => none)
  (fun _ _ _ _ => none)
  (fun _ _ _ _ _ _ _ => none)
  ⟨⟩ (fun _ _ _ _ => ⟨⟩) v
def Am (v : V) : List V :=
 V.rec (motive_1 := fun _ => List V) (motive_2 := fun _ => PUnit)
  ([v])
  (fun _ _ _ => [v])
  (fun _ => [v])
  (fun _ _ => [v])
  ([v])
  (fun _ _ => [v])
  (fun _ _ => [v])
  ([v])
  (fun _ _ _ _ _ => [v])
  (fun _ _ _ _ => [v])
  (fun _ _ _ _ _ => [v])
  ([v])
  (fun _ => [v])
  ([v])
  (fun _ _ _ _ _ => [v])
  (fun a _ => a)
  (fun _ _ => [v])
  ([v])
  (fun _ _ _ => [v])
  ⟨⟩ (fun _ _ _ _ => ⟨⟩) v
def isStr (v : V) : Bool :=
 V.rec (motive_1 := fun _ => Bool) (motive_2 := fun _ => PUnit)
  (false)
  (fun _ _ _ => false)
  (fun _ => false)
  (fun _ _ => true)
  (false)
  (fun _ _ => false)
  (fun _ _ => false)
  (false)
  (fun _ _ _ _ _ => false)
  (fun _ _ _ _ => false)
  (fun _ _ _ _ _ => false)
  (false)
  (fun _ => false)
  (false)
  (fun _ _ _ _ _ => false)
  (fun _ _ => false)
  (fun _ _ => false)
  (false)
  (fun _ _ _ => false)
  ⟨⟩ (fun _ _ _ _ => ⟨⟩) v
def lenV (v : V) : Option V :=
 V.rec (motive_1 := fun _ => Option V) (motive_2 := fun _ => PUnit)
  (none)
  (fun _ _ _ => none)
  (fun _ => none)
  (fun _ _ => none)
  (none)
  (fun _ _ => none)
  (fun _ _ => none)
  (some (.int .i64 (.ofNat 0) 0))
  (fun _ _ c _ _ => some (.int .i64 (.ofNat c) 0))
  (fun _ _ c _ => some (.int .i64 (.ofNat c) 0))
  (fun _ _ c _ _ => some (.int .i64 (.ofNat c) 0))
  (none)
  (fun _ => none)
  (none)
  (fun _ _ _ _ _ => none)
  (fun _ _ => none)
  (fun _ _ => none)
  (none)
  (fun _ _ _ => none)
  ⟨⟩ (fun _ _ _ _ => ⟨⟩) v
def Az (v : V) : Option V :=
 V.rec (motive_1 := fun _ => Option V) (motive_2 := fun _ => PUnit)
  (none)
  (fun _ _ _ => none)
  (fun _ => none)
  (fun _ _ => none)
  (none)
  (fun a b => some (.ptr a b))
  (fun a b => some (.gptr a b))
  (none)
  (fun _ _ _ _ _ => none)
  (fun _ _ _ _ => none)
  (fun _ _ _ _ _ => none)
  (none)
  (fun _ => none)
  (none)
  (fun a b c _ _ => some (.fn a b c))
  (fun _ _ => none)
  (fun _ _ => none)
  (none)
  (fun _ _ _ => none)
  ⟨⟩ (fun _ _ _ _ => ⟨⟩) v
def OV (n : Int) : (Int -> Option V) -> Option V := fun f => f n
def EP (n : Nat) : (Nat -> Option V) -> Option V :=
 Nat.rec (motive := fun _ => (Nat -> Option V) -> Option V) (fun f => f 0) (fun k _ f => f (Nat.succ k)) n
def CU (n : Nat) : (Nat -> Prop) -> Prop :=
 Nat.rec (motive := fun _ => (Nat -> Prop) -> Prop) (fun f => f 0) (fun k _ f => f (Nat.succ k)) n
def APL (k : IntKind) : Nat -> Bool :=
 IntKind.rec (motive := fun _ => Nat -> Bool) (fun m => Nat.blt m 128) (fun m => Nat.blt m 32768) (fun m => Nat.blt m 2147483648) (fun m => Nat.blt m 9223372036854775808)
  (fun m => Nat.blt m 256) (fun m => Nat.blt m 65536) (fun m => Nat.blt m 4294967296) (fun m => Nat.blt m 18446744073709551616) k
def AO8 (k : IntKind) : Nat -> Bool :=
 IntKind.rec (motive := fun _ => Nat -> Bool) (fun m => Nat.blt m 128) (fun m => Nat.blt m 32768) (fun m => Nat.blt m 2147483648) (fun m => Nat.blt m 9223372036854775808)
  (fun _ => false) (fun _ => false) (fun _ => false) (fun _ => false) k
def inr (k : IntKind) (n : Int) : Bool := Int.rec (motive := fun _ => IntKind -> Bool) (fun m k => APL k m) (fun m k => AO8 k m) n k
def YE (k : IntKind) (n : Int) : Int := Bool.rec (k.wrap n) n (inr k n)
def AMm (k : IntKind) (n : Int) : Option V := OV (YE k n) fun m => some (.int k m 0)
def mkI (k : IntKind) (n : Int) (s : Nat) : Option V :=
 Nat.rec (motive := fun _ => IntKind -> Int -> Option V) AMm (fun _ _ k n => some (.int k (k.wrap n) 1)) s k n
def mkN (k : IntKind) (n : Int) (s : Nat) : Option V :=
 Nat.rec (motive := fun _ => IntKind -> Int -> Option V) (fun k n => OV n fun m => some (.int k m 0)) (fun _ _ k n => some (.int k n 1)) s k n
def AKo (a : Nat) (b : Int) : Int := Int.rec (motive := fun _ => Nat -> Int) (fun n m => .ofNat (Nat.add m n)) (fun n m => Int.subNatNat m (Nat.succ n)) b a
def AKv (a : Nat) (b : Int) : Int := Int.rec (motive := fun _ => Nat -> Int) (fun n m => Int.subNatNat n (Nat.succ m)) (fun n m => .negSucc (Nat.succ (Nat.add m n))) b a
def vZ (a b : Int) : Int := Int.rec (motive := fun _ => Int -> Int) AKo AKv a b
def ile (a b : Int) : Bool := Int.rec (motive := fun _ => Int -> Bool) (fun m b => Int.rec (motive := fun _ => Nat -> Bool) (fun n m => Nat.ble m n) (fun _ _ => false) b m)
 (fun m b => Int.rec (motive := fun _ => Nat -> Bool) (fun _ _ => true) (fun n m => Nat.ble n m) b m) a b
def ilt (a b : Int) : Bool := Int.rec (motive := fun _ => Int -> Bool) (fun m b => Int.rec (motive := fun _ => Nat -> Bool) (fun n m => Nat.blt m n) (fun _ _ => false) b m)
 (fun m b => Int.rec (motive := fun _ => Nat -> Bool) (fun _ _ => true) (fun n m => Nat.blt n m) b m) a b
def ieq (a b : Int) : Bool := Int.rec (motive := fun _ => Int -> Bool) (fun m b => Int.rec (motive := fun _ => Nat -> Bool) (fun n m => Nat.beq m n) (fun _ _ => false) b m)
 (fun m b => Int.rec (motive := fun _ => Nat -> Bool) (fun _ _ => false) (fun n m => Nat.beq n m) b m) a b
def kno (a : IntKind) : Nat := IntKind.rec 0 1 2 3 4 5 6 7 a
def keq (a b : IntKind) : Bool := Nat.beq (kno a) (kno b)
def Vh (b : Bool) : Bool := Bool.rec true false b
def band (a b : Bool) : Bool := Bool.rec (motive := fun _ => Bool -> Bool) (fun _ => false) (fun b => b) a b
def AHx (a b : Bool) : Bool := Bool.rec (motive := fun _ => Bool -> Bool) Vh (fun b => b) a b
def xE (b : Bool) : Option V := Bool.rec (some (.bool false)) (some (.bool true)) b
def BD (b : Bool) : Option V -> Option V := Bool.rec (motive := fun _ => Option V -> Option V) (fun _ => none) (fun o => o) b
def mG (b : Bool) (x y : Option V) : Option V := Bool.rec (motive := fun _ => Option V -> Option V -> Option V) (fun _ y => y) (fun x _ => x) b x y
def AGf (code i : Nat) : Nat := Nat.mod (Nat.div code (Nat.pow 256 i)) 256
def ANn (code l h : Nat) : Nat := Nat.mod (Nat.div code (Nat.pow 256 l)) (Nat.pow 256 (Nat.sub h l))
def ANk (l1 c1 c2 : Nat) : Nat := Nat.add c1 (Nat.mul (Nat.pow 256 l1) c2)
def ALm (f : Nat) : Nat -> Nat -> Nat -> Nat -> Bool :=
 Nat.rec (motive := fun _ => Nat -> Nat -> Nat -> Nat -> Bool) (fun _ _ _ _ => false)
  (fun _ g l1 c1 l2 c2 => Nat.rec (motive := fun _ => Bool) false (fun l2' _ => Nat.rec (motive := fun _ => Bool) true (fun l1' _ =>
   Bool.rec (Nat.blt (Nat.mod c1 256) (Nat.mod c2 256)) (g l1' (Nat.div c1 256) l2' (Nat.div c2 256)) (Nat.beq (Nat.mod c1 256) (Nat.mod c2 256))) l1) l2) f
def slt (l1 c1 l2 c2 : Nat) : Bool := ALm (Nat.succ l2) l1 c1 l2 c2
def nth {α : Type} (l : List α) : Nat -> Option α :=
 List.rec (motive := fun _ => Nat -> Option α) (fun _ => none) (fun x _ g i => Nat.rec (motive := fun _ => Option α) (some x) (fun i _ => g i) i) l
def Yg {α : Type} (x : α) (l : List α) : Nat -> List α :=
 List.rec (motive := fun _ => Nat -> List α) (fun _ => []) (fun y ys g i => Nat.rec (motive := fun _ => List α) (x :: ys) (fun i _ => y :: g i) i) l
def len {α : Type} (l : List α) : Nat := List.rec (motive := fun _ => Nat) 0 (fun _ _ n => Nat.succ n) l
def cat {α : Type} (a b : List α) : List α := List.rec (motive := fun _ => List α -> List α) (fun b => b) (fun x _ g b => x :: g b) a b
def Ur {α : Type} (n : Nat) : List α -> List α :=
 Nat.rec (motive := fun _ => List α -> List α) (fun _ => []) (fun _ g l => List.rec (motive := fun _ => List α) [] (fun x xs _ => x :: g xs) l) n
def aT {α : Type} (n : Nat) : List α -> List α :=
 Nat.rec (motive := fun _ => List α -> List α) (fun l => l) (fun _ g l => List.rec (motive := fun _ => List α) [] (fun _ xs _ => g xs) l) n
def Xt (l : List X) : RS -> List V := List.rec (motive := fun _ => RS -> List V) (fun _ => []) (fun x _ g R => x.ev R :: g R) l
def ADa (new : List V) (i : Nat) (l : List V) : List V := cat (Ur i l) (cat new (aT (Nat.add i (len new)) l))
abbrev LV := List V
def QF (o : Option LV) (f : LV -> Option V) : Option V := Option.rec (motive := fun _ => (LV -> Option V) -> Option V) (fun _ => none) (fun v f => f v) o f
def He {α : Type} (o : Option α) (f : α -> Prop) : Prop := Option.rec (motive := fun _ => (α -> Prop) -> Prop) (fun _ => False) (fun v f => f v) o f
def AP (o : Option V) (f : V -> Prop) : Prop := Option.rec (motive := fun _ => (V -> Prop) -> Prop) (fun _ => False) (fun v f => f v) o f
def A8 {α β : Type} (o : Option α) (f : α -> Option β) : Option β := Option.rec (motive := fun _ => (α -> Option β) -> Option β) (fun _ => none) (fun v f => f v) o f
def ldC (esz off n : Nat) (L : LV) : Option LV :=
  Bool.rec (motive := fun _ => Option LV)
      (Bool.rec none (some (Ur n (aT (Nat.mod off esz) L))) (Nat.ble (Nat.add (Nat.mod off esz) n) esz))
      (some L) (band (Nat.beq n esz) (Nat.beq (Nat.mod off esz) 0))
def ldB (esz cnt : Nat) (c : T LV) (off n : Nat) : Option LV :=
 A8 (Bool.rec none (T.get c (Nat.div off esz)) (Nat.blt (Nat.div off esz) cnt)) (ldC esz off n)
def Nh.ld (b : Nh) : Nat -> Nat -> Option LV :=
 Nh.rec (motive := fun _ => Nat -> Nat -> Option LV) ldB (fun _ _ _ _ => none) (fun _ _ => none) b
def Xl (H : Heap) (id off n : Nat) : Option LV := Option.rec (motive := fun _ => Nat -> Nat -> Option LV) (fun _ _ => none) Nh.ld (T.get H id) off n
def dw (v : V) : (AL) -> (Heap) -> (Nat) -> Option LV :=
 V.rec (motive_1 := fun _ => (AL) -> (Heap) -> (Nat) -> Option LV) (motive_2 := fun _ => PUnit)
  (fun _ _ _ => none)
  (fun _ _ _ _ _ _ => none)
  (fun _ _ _ _ => none)
  (fun _ _ _ _ _ => none)
  (fun _ _ _ => none)
  (fun a b _ H n => Xl H a b n)
  (fun a b G _ n => G a b n)
  (fun _ _ _ => none)
  (fun _ _ _ _ _ _ _ _ => none)
  (fun _ _ _ _ _ _ _ => none)
  (fun _ _ _ _ _ _ _ _ => none)
  (fun _ _ _ => none)
  (fun _ _ _ _ => none)
  (fun _ _ _ => none)
  (fun _ _ _ _ _ _ _ _ => none)
  (fun _ _ _ _ _ => none)
  (fun _ _ _ _ _ => none)
  (fun _ _ _ => none)
  (fun _ _ _ _ _ _ => none)
  ⟨⟩ (fun _ _ _ _ => ⟨⟩) v
def stC (new : LV) (esz cnt : Nat) (c : T LV) (off n : Nat) (L : LV) : Option Nh :=
  Bool.rec (motive := fun _ => Option Nh)
      (Bool.rec none (some (.arr esz cnt (T.set c (Nat.div off esz) (ADa new (Nat.mod off esz) L)))) (Nat.ble (Nat.add (Nat.mod off esz) n) esz))
      (some (.arr esz cnt (T.set c (Nat.div off esz) new))) (band (Nat.beq n esz) (Nat.beq (Nat.mod off esz) 0))
def stB (esz cnt : Nat) (c : T LV) (off n : Nat) (new : LV) : Option Nh :=
 A8 (Bool.rec none (T.get c (Nat.div off esz)) (Nat.blt (Nat.div off esz) cnt)) (stC new esz cnt c off n)
def Nh.st (b : Nh) : Nat -> Nat -> LV -> Option Nh :=
 Nh.rec (motive := fun _ => Nat -> Nat -> LV -> Option Nh) stB (fun _ _ _ _ _ => none) (fun _ _ _ => none) b
def stH (H : Heap) (id off n : Nat) (new : LV) : Option Heap :=
 A8 (Option.rec (motive := fun _ => Nat -> Nat -> LV -> Option Nh) (fun _ _ _ => none) Nh.st (T.get H id) off n new) fun b => some (T.set H id b)
def stP (v : V) : (Heap) -> (Nat) -> (LV) -> Option Heap :=
 V.rec (motive_1 := fun _ => (Heap) -> (Nat) -> (LV) -> Option Heap) (motive_2 := fun _ => PUnit)
  (fun _ _ _ => none)
  (fun _ _ _ _ _ _ => none)
  (fun _ _ _ _ => none)
  (fun _ _ _ _ _ => none)
  (fun _ _ _ => none)
  (fun a b H n new => stH H a b n new)
  (fun _ _ _ _ _ => none)
  (fun _ _ _ => none)
  (fun _ _ _ _ _ _ _ _ => none)
  (fun _ _ _ _ _ _ _ => none)
  (fun _ _ _ _ _ _ _ _ => none)
  (fun _ _ _ => none)
  (fun _ _ _ _ => none)
  (fun _ _ _ => none)
  (fun _ _ _ _ _ _ _ _ => none)
  (fun _ _ _ _ _ => none)
  (fun _ _ _ _ _ => none)
  (fun _ _ _ => none)
  (fun _ _ _ _ _ _ => none)
  ⟨⟩ (fun _ _ _ _ => ⟨⟩) v
def AIf (v : V) : (IntKind) -> (Int) -> (Nat) -> Option Bool :=
 V.rec (motive_1 := fun _ => (IntKind) -> (Int) -> (Nat) -> Option Bool) (motive_2 := fun _ => PUnit)
  (fun _ _ _ => none)
  (fun a b c k n s => Bool.rec (motive := fun _ => Option Bool) none (some (ieq n b)) (band (keq k a) (Nat.beq (Nat.add s c) 0)))
  (fun _ _ _ _ => none)
  (fun _ _ _ _ _ => none)
  (fun _ _ _ => none)
  (fun _ _ _ _ _ => none)
  (fun _ _ _ _ _ => none)
  (fun _ _ _ => none)
  (fun _ _ _ _ _ _ _ _ => none)
  (fun _ _ _ _ _ _ _ => none)
  (fun _ _ _ _ _ _ _ _ => none)
  (fun _ _ _ => none)
  (fun _ _ _ _ => none)
  (fun _ _ _ => none)
  (fun _ _ _ _ _ _ _ _ => none)
  (fun _ _ _ _ _ => none)
  (fun _ _ _ _ _ => none)
  (fun _ _ _ => none)
  (fun _ _ _ _ _ _ => none)
  ⟨⟩ (fun _ _ _ _ => ⟨⟩) v
def ADP (v : V) : (Bool) -> Option Bool :=
 V.rec (motive_1 := fun _ => (Bool) -> Option Bool) (motive_2 := fun _ => PUnit)
  (fun _ => none)
  (fun _ _ _ _ => none)
  (fun a x => some (AHx x a))
  (fun _ _ _ => none)
  (fun _ => none)
  (fun _ _ _ => none)
  (fun _ _ _ => none)
  (fun _ => none)
  (fun _ _ _ _ _ _ => none)
  (fun _ _ _ _ _ => none)
  (fun _ _ _ _ _ _ => none)
  (fun _ => none)
  (fun _ _ => none)
  (fun _ => none)
  (fun _ _ _ _ _ _ => none)
  (fun _ _ _ => none)
  (fun _ _ _ => none)
  (fun _ => none)
  (fun _ _ _ _ => none)
  ⟨⟩ (fun _ _ _ _ => ⟨⟩) v
def eqStr (v : V) : (Nat) -> (Nat) -> Option Bool :=
 V.rec (motive_1 := fun _ => (Nat) -> (Nat) -> Option Bool) (motive_2 := fun _ => PUnit)
  (fun _ _ => none)
  (fun _ _ _ _ _ => none)
  (fun _ _ _ => none)
  (fun a b l d => some (band (Nat.beq l a) (Nat.beq d b)))
  (fun _ _ => none)
  (fun _ _ _ _ => none)
  (fun _ _ _ _ => none)
  (fun _ _ => none)
  (fun _ _ _ _ _ _ _ => none)
  (fun _ _ _ _ _ _ => none)
  (fun _ _ _ _ _ _ _ => none)
  (fun _ _ => none)
  (fun _ _ _ => none)
  (fun _ _ => none)
  (fun _ _ _ _ _ _ _ => none)
  (fun _ _ _ _ => none)
  (fun _ _ _ _ => none)
  (fun _ _ => none)
  (fun _ _ _ _ _ => none)
  ⟨⟩ (fun _ _ _ _ => ⟨⟩) v
def AIL (v : V) : Option Bool :=
 V.rec (motive_1 := fun _ => Option Bool) (motive_2 := fun _ => PUnit)
  (none)
  (fun _ _ _ => none)
  (fun _ => none)
  (fun _ _ => none)
  (some true)
  (fun _ _ => some false)
  (fun _ _ => some false)
  (none)
  (fun _ _ _ _ _ => none)
  (fun _ _ _ _ => none)
  (fun _ _ _ _ _ => none)
  (none)
  (fun _ => none)
  (none)
  (fun _ _ _ _ _ => none)
  (fun _ _ => none)
  (fun _ _ => none)
  (none)
  (fun _ _ _ => none)
  ⟨⟩ (fun _ _ _ _ => ⟨⟩) v
def ALE (v : V) : (Nat) -> (Nat) -> Option Bool :=
 V.rec (motive_1 := fun _ => (Nat) -> (Nat) -> Option Bool) (motive_2 := fun _ => PUnit)
  (fun _ _ => none)
  (fun _ _ _ _ _ => none)
  (fun _ _ _ => none)
  (fun _ _ _ _ => none)
  (fun _ _ => some false)
  (fun a b i o => Bool.rec none (some (Nat.beq o b)) (Nat.beq i a))
  (fun _ _ _ _ => none)
  (fun _ _ => none)
  (fun _ _ _ _ _ _ _ => none)
  (fun _ _ _ _ _ _ => none)
  (fun _ _ _ _ _ _ _ => none)
  (fun _ _ => none)
  (fun _ _ _ => none)
  (fun _ _ => none)
  (fun _ _ _ _ _ _ _ => none)
  (fun _ _ _ _ => none)
  (fun _ _ _ _ => none)
  (fun _ _ => none)
  (fun _ _ _ _ _ => none)
  ⟨⟩ (fun _ _ _ _ => ⟨⟩) v
def AGW (v : V) : Option Bool :=
 V.rec (motive_1 := fun _ => Option Bool) (motive_2 := fun _ => PUnit)
  (none)
  (fun _ _ _ => none)
  (fun _ => none)
  (fun _ _ => none)
  (some false)
  (fun _ _ => none)
  (fun _ _ => none)
  (none)
  (fun _ _ _ _ _ => none)
  (fun _ _ _ _ => none)
  (fun _ _ _ _ _ => none)
  (none)
  (fun _ => none)
  (none)
  (fun _ _ _ _ _ => none)
  (fun _ _ => none)
  (fun _ _ => none)
  (none)
  (fun _ _ _ => none)
  ⟨⟩ (fun _ _ _ _ => ⟨⟩) v
def ADg (v : V) : (V) -> Option Bool :=
 V.rec (motive_1 := fun _ => (V) -> Option Bool) (motive_2 := fun _ => PUnit)
  (fun _ => none)
  (fun a b c y => AIf y a b c)
  (fun _ _ => none)
  (fun _ _ _ => none)
  (fun _ => none)
  (fun _ _ _ => none)
  (fun _ _ _ => none)
  (fun _ => none)
  (fun _ _ _ _ _ _ => none)
  (fun _ _ _ _ _ => none)
  (fun _ _ _ _ _ _ => none)
  (fun _ => none)
  (fun _ _ => none)
  (fun _ => none)
  (fun _ _ _ _ _ _ => none)
  (fun _ _ _ => none)
  (fun _ _ _ => none)
  (fun _ => none)
  (fun _ _ _ _ => none)
  ⟨⟩ (fun _ _ _ _ => ⟨⟩) v
def ADH (v : V) : (V) -> Option Bool :=
 V.rec (motive_1 := fun _ => (V) -> Option Bool) (motive_2 := fun _ => PUnit)
  (fun _ => none)
  (fun _ _ _ _ => none)
  (fun _ _ => none)
  (fun a b y => eqStr y a b)
  (fun _ => none)
  (fun _ _ _ => none)
  (fun _ _ _ => none)
  (fun _ => none)
  (fun _ _ _ _ _ _ => none)
  (fun _ _ _ _ _ => none)
  (fun _ _ _ _ _ _ => none)
  (fun _ => none)
  (fun _ _ => none)
  (fun _ => none)
  (fun _ _ _ _ _ _ => none)
  (fun _ _ _ => none)
  (fun _ _ _ => none)
  (fun _ => none)
  (fun _ _ _ _ => none)
  ⟨⟩ (fun _ _ _ _ => ⟨⟩) v
def uV (v : V) : (V) -> Option Bool :=
 V.rec (motive_1 := fun _ => (V) -> Option Bool) (motive_2 := fun _ => PUnit)
  (fun _ => none)
  (fun _ _ _ _ => none)
  (fun a y => ADP y a)
  (fun _ _ _ => none)
  (fun _ => none)
  (fun _ _ _ => none)
  (fun _ _ _ => none)
  (fun _ => none)
  (fun _ _ _ _ _ _ => none)
  (fun _ _ _ _ _ => none)
  (fun _ _ _ _ _ _ => none)
  (fun _ => none)
  (fun _ _ => none)
  (fun _ => none)
  (fun _ _ _ _ _ _ => none)
  (fun _ _ _ => none)
  (fun _ _ _ => none)
  (fun _ => none)
  (fun _ _ _ _ => none)
  ⟨⟩ (fun _ _ _ _ => ⟨⟩) v
def AID (v : V) : (V) -> Option Bool :=
 V.rec (motive_1 := fun _ => (V) -> Option Bool) (motive_2 := fun _ => PUnit)
  (fun _ => none)
  (fun _ _ _ _ => none)
  (fun _ _ => none)
  (fun _ _ _ => none)
  (fun y => AIL y)
  (fun a b y => ALE y a b)
  (fun _ _ y => AGW y)
  (fun _ => none)
  (fun _ _ _ _ _ _ => none)
  (fun _ _ _ _ _ => none)
  (fun _ _ _ _ _ _ => none)
  (fun _ => none)
  (fun _ _ => none)
  (fun _ => none)
  (fun _ _ _ _ _ _ => none)
  (fun _ _ _ => none)
  (fun _ _ _ => none)
  (fun _ => none)
  (fun _ _ _ _ => none)
  ⟨⟩ (fun _ _ _ _ => ⟨⟩) v
def AGg (v : V) : Option Bool :=
 V.rec (motive_1 := fun _ => Option Bool) (motive_2 := fun _ => PUnit)
  (none)
  (fun _ _ _ => none)
  (fun _ => none)
  (fun _ _ => none)
  (none)
  (fun _ _ => none)
  (fun _ _ => none)
  (some true)
  (fun _ _ _ _ _ => some false)
  (fun _ _ _ _ => some false)
  (fun _ _ _ _ _ => some false)
  (none)
  (fun _ => none)
  (none)
  (fun _ _ _ _ _ => none)
  (fun _ _ => none)
  (fun _ _ => none)
  (none)
  (fun _ _ _ => none)
  ⟨⟩ (fun _ _ _ _ => ⟨⟩) v
def Yl (v : V) : Option Bool :=
 V.rec (motive_1 := fun _ => Option Bool) (motive_2 := fun _ => PUnit)
  (none)
  (fun _ _ _ => none)
  (fun _ => none)
  (fun _ _ => none)
  (none)
  (fun _ _ => none)
  (fun _ _ => none)
  (some false)
  (fun _ _ _ _ _ => none)
  (fun _ _ _ _ => none)
  (fun _ _ _ _ _ => none)
  (none)
  (fun _ => none)
  (none)
  (fun _ _ _ _ _ => none)
  (fun _ _ => none)
  (fun _ _ => none)
  (none)
  (fun _ _ _ => none)
  ⟨⟩ (fun _ _ _ _ => ⟨⟩) v
def AGs (v : V) : Option Bool :=
 V.rec (motive_1 := fun _ => Option Bool) (motive_2 := fun _ => PUnit)
  (none)
  (fun _ _ _ => none)
  (fun _ => none)
  (fun _ _ => none)
  (none)
  (fun _ _ => none)
  (fun _ _ => none)
  (none)
  (fun _ _ _ _ _ => none)
  (fun _ _ _ _ => none)
  (fun _ _ _ _ _ => none)
  (none)
  (fun _ => none)
  (some true)
  (fun _ _ _ _ _ => some false)
  (fun _ _ => none)
  (fun _ _ => none)
  (none)
  (fun _ _ _ => none)
  ⟨⟩ (fun _ _ _ _ => ⟨⟩) v
def AEq (v : V) : Option Bool :=
 V.rec (motive_1 := fun _ => Option Bool) (motive_2 := fun _ => PUnit)
  (none)
  (fun _ _ _ => none)
  (fun _ => none)
  (fun _ _ => none)
  (none)
  (fun _ _ => none)
  (fun _ _ => none)
  (none)
  (fun _ _ _ _ _ => none)
  (fun _ _ _ _ => none)
  (fun _ _ _ _ _ => none)
  (none)
  (fun _ => none)
  (some false)
  (fun _ _ _ _ _ => none)
  (fun _ _ => none)
  (fun _ _ => none)
  (none)
  (fun _ _ _ => none)
  ⟨⟩ (fun _ _ _ _ => ⟨⟩) v
def AHV (v : V) : Option Bool :=
 V.rec (motive_1 := fun _ => Option Bool) (motive_2 := fun _ => PUnit)
  (none)
  (fun _ _ _ => none)
  (fun _ => none)
  (fun _ _ => none)
  (none)
  (fun _ _ => none)
  (fun _ _ => none)
  (none)
  (fun _ _ _ _ _ => none)
  (fun _ _ _ _ => none)
  (fun _ _ _ _ _ => none)
  (some true)
  (fun _ => some false)
  (none)
  (fun _ _ _ _ _ => none)
  (fun _ _ => none)
  (fun _ _ => none)
  (none)
  (fun _ _ _ => none)
  ⟨⟩ (fun _ _ _ _ => ⟨⟩) v
def AEg (v : V) : Option Bool :=
 V.rec (motive_1 := fun _ => Option Bool) (motive_2 := fun _ => PUnit)
  (none)
  (fun _ _ _ => none)
  (fun _ => none)
  (fun _ _ => none)
  (none)
  (fun _ _ => none)
  (fun _ _ => none)
  (none)
  (fun _ _ _ _ _ => none)
  (fun _ _ _ _ => none)
  (fun _ _ _ _ _ => none)
  (some false)
  (fun _ => none)
  (none)
  (fun _ _ _ _ _ => none)
  (fun _ _ => none)
  (fun _ _ => none)
  (none)
  (fun _ _ _ => none)
  ⟨⟩ (fun _ _ _ _ => ⟨⟩) v
def kSl (v : V) : (V) -> Option Bool :=
 V.rec (motive_1 := fun _ => (V) -> Option Bool) (motive_2 := fun _ => PUnit)
  (fun _ => none)
  (fun _ _ _ _ => none)
  (fun _ _ => none)
  (fun _ _ _ => none)
  (fun _ => none)
  (fun _ _ _ => none)
  (fun _ _ _ => none)
  (fun y => AGg y)
  (fun _ _ _ _ _ y => Yl y)
  (fun _ _ _ _ y => Yl y)
  (fun _ _ _ _ _ y => Yl y)
  (fun _ => none)
  (fun _ _ => none)
  (fun _ => none)
  (fun _ _ _ _ _ _ => none)
  (fun _ _ _ => none)
  (fun _ _ _ => none)
  (fun _ => none)
  (fun _ _ _ _ => none)
  ⟨⟩ (fun _ _ _ _ => ⟨⟩) v
def kFn (v : V) : (V) -> Option Bool :=
 V.rec (motive_1 := fun _ => (V) -> Option Bool) (motive_2 := fun _ => PUnit)
  (fun _ => none)
  (fun _ _ _ _ => none)
  (fun _ _ => none)
  (fun _ _ _ => none)
  (fun _ => none)
  (fun _ _ _ => none)
  (fun _ _ _ => none)
  (fun _ => none)
  (fun _ _ _ _ _ _ => none)
  (fun _ _ _ _ _ => none)
  (fun _ _ _ _ _ _ => none)
  (fun _ => none)
  (fun _ _ => none)
  (fun y => AGs y)
  (fun _ _ _ _ _ y => AEq y)
  (fun _ _ _ => none)
  (fun _ _ _ => none)
  (fun _ => none)
  (fun _ _ _ _ => none)
  ⟨⟩ (fun _ _ _ _ => ⟨⟩) v
def AMX (v : V) : (V) -> Option Bool :=
 V.rec (motive_1 := fun _ => (V) -> Option Bool) (motive_2 := fun _ => PUnit)
  (fun _ => none)
  (fun _ _ _ _ => none)
  (fun _ _ => none)
  (fun _ _ _ => none)
  (fun _ => none)
  (fun _ _ _ => none)
  (fun _ _ _ => none)
  (fun _ => none)
  (fun _ _ _ _ _ _ => none)
  (fun _ _ _ _ _ => none)
  (fun _ _ _ _ _ _ => none)
  (fun y => AHV y)
  (fun _ y => AEg y)
  (fun _ => none)
  (fun _ _ _ _ _ _ => none)
  (fun _ _ _ => none)
  (fun _ _ _ => none)
  (fun _ => none)
  (fun _ _ _ _ => none)
  ⟨⟩ (fun _ _ _ _ => ⟨⟩) v
def Ri (o : Option Bool) (f : Bool -> Option Bool) : Option Bool := Option.rec (motive := fun _ => (Bool -> Option Bool) -> Option Bool) (fun _ => none) (fun v f => f v) o f
inductive CK where
 | int | str | bool | ptr
def CK.eq (k : CK) : V -> V -> Option Bool := CK.rec (motive := fun _ => V -> V -> Option Bool) ADg ADH uV AID k
def wC (ks : List CK) : List V -> List V -> Option Bool :=
 List.rec (motive := fun _ => List V -> List V -> Option Bool) (fun a b => List.rec (motive := fun _ => Option Bool) (List.rec (motive := fun _ => Option Bool) (some true) (fun _ _ _ => none) b) (fun _ _ _ => none) a)
  (fun k _ g a b => List.rec (motive := fun _ => Option Bool) none (fun x xs _ => List.rec (motive := fun _ => Option Bool) none (fun y ys _ => Ri (k.eq x y) fun r => Ri (g xs ys) fun r' => some (band r r')) b) a) ks
def AKx (v : V) : (List CK) -> (LV) -> Option Bool :=
 V.rec (motive_1 := fun _ => (List CK) -> (LV) -> Option Bool) (motive_2 := fun _ => PUnit)
  (fun _ _ => none)
  (fun _ _ _ _ _ => none)
  (fun _ _ _ => none)
  (fun _ _ _ _ => none)
  (fun _ _ => none)
  (fun _ _ _ _ => none)
  (fun _ _ _ _ => none)
  (fun _ _ => none)
  (fun _ _ _ _ _ _ _ => none)
  (fun _ _ _ _ _ _ => none)
  (fun _ _ _ _ _ _ _ => none)
  (fun _ _ => none)
  (fun _ _ _ => none)
  (fun _ _ => none)
  (fun _ _ _ _ _ _ _ => none)
  (fun a _ ks l => wC ks l a)
  (fun _ _ _ _ => none)
  (fun _ _ => none)
  (fun _ _ _ _ _ => none)
  ⟨⟩ (fun _ _ _ _ => ⟨⟩) v
def AMK (v : V) : (List CK) -> (V) -> Option Bool :=
 V.rec (motive_1 := fun _ => (List CK) -> (V) -> Option Bool) (motive_2 := fun _ => PUnit)
  (fun _ _ => none)
  (fun _ _ _ _ _ => none)
  (fun _ _ _ => none)
  (fun _ _ _ _ => none)
  (fun _ _ => none)
  (fun _ _ _ _ => none)
  (fun _ _ _ _ => none)
  (fun _ _ => none)
  (fun _ _ _ _ _ _ _ => none)
  (fun _ _ _ _ _ _ => none)
  (fun _ _ _ _ _ _ _ => none)
  (fun _ _ => none)
  (fun _ _ _ => none)
  (fun _ _ => none)
  (fun _ _ _ _ _ _ _ => none)
  (fun a _ ks y => AKx y ks a)
  (fun _ _ _ _ => none)
  (fun _ _ => none)
  (fun _ _ _ _ _ => none)
  ⟨⟩ (fun _ _ _ _ => ⟨⟩) v
inductive EK where
 | one (k : CK) | agg (ks : List CK) | sl | fn | map
def EK.eq (k : EK) : V -> V -> Option Bool := EK.rec (motive := fun _ => V -> V -> Option Bool) (fun k => k.eq) (fun ks x y => AMK x ks y) kSl kFn AMX k
inductive B2 where
 | add | sub | mul | quo | rem | and | or | xor | andNot | shl | shr | lss | leq | gtr | geq
def AFW (f : Int -> Int -> Bool) (x y : V) : Option V := x.GU fun k a s => y.GU fun k' b t => BD (band (keq k k') (Nat.beq (Nat.add s t) 0)) (xE (f a b))
def AA9 (f : Nat -> Nat -> Nat -> Nat -> Bool) (x y : V) : Option V := x.QN fun l c => y.QN fun m d => xE (f l c m d)
def ari (f : Int -> Int -> Int) (x y : V) : Option V := x.GU fun k a s => y.GU fun k' b t => BD (keq k k') (mkI k (f a b) (Nat.add s t))
def dvs (f : Int -> Int -> Int) (x y : V) : Option V :=
 x.GU fun k a s => y.GU fun k' b t => BD (band (keq k k') (band (Nat.beq t 0) (Vh (ieq b 0)))) (mkI k (f a b) s)
def AMB (x y : V) : Option V :=
 x.GU fun k a s => y.GU fun k' b t => BD (band (keq k k') (band (Nat.beq t 0) (Vh (ieq b 0)))) (mkN k (Int.tmod a b) s)
def ANm (x y : V) : Option V := x.QN fun l c => y.QN fun m d => BD (Nat.blt (Nat.add l m) 9223372036854775808) (EP (Nat.add l m) fun n => EP (ANk l c d) fun e => some (.str n e))
def AMl (x y : V) : Option V := mG (isStr x) (ANm x y) (ari vZ x y)
def ANs (x y : V) : Option V := ari (fun a b => vZ a (Int.neg b)) x y
def AOU (x y : V) : Option V := ari Int.mul x y
def AG1 (k : IntKind) (a b : Int) : Int := Int.rec (motive := fun _ => Int -> IntKind -> Int)
 (fun m b k => Int.rec (motive := fun _ => Nat -> IntKind -> Int) (fun n m k => YE k (.ofNat (Nat.land m n))) (fun n m k => bits .and k (.ofNat m) (.negSucc n)) b m k)
 (fun m b k => bits .and k (.negSucc m) b) a b k
def AM4 (x y : V) : Option V := x.GU fun k a s => y.GU fun k' b t => BD (band (keq k k') (Nat.beq (Nat.add s t) 0)) (OV (AG1 k a b) fun m => some (.int k m 0))
def AGU (o : BinOp) (x y : V) : Option V := x.GU fun k a s => y.GU fun k' b t => BD (band (keq k k') (Nat.beq (Nat.add s t) 0)) (OV (bits o k a b) fun m => some (.int k m 0))
def AOD (a : Int) (n : Nat) : Int := Int.fdiv a (Int.ofNat (Nat.pow 2 n))
def ACh (k : IntKind) : Nat := IntKind.rec 8 16 32 64 8 16 32 64 k
def AMx (x y : V) : Option V := x.GU fun k a s => y.GU fun _ b t => BD (band (Vh (ilt b 0)) (Nat.beq (Nat.add s t) 0)) (OV (AOD a (Nat.min (Int.toNat b) (ACh k))) fun m => some (.int k m 0))
def AM0 (x y : V) : Option V := x.GU fun k a s => y.GU fun _ b t => BD (band (Vh (ilt b 0)) (Nat.beq (Nat.add s t) 0)) (mkI k (Int.mul a (Int.ofNat (Nat.pow 2 (Nat.min (Int.toNat b) (ACh k))))) 0)
def ofB (o : Option Bool) : Option V := Option.rec none xE o
def Dw (k : EK) (neg : Bool) (x y : V) : Option V := ofB (Ri (k.eq x y) fun b => some (Bool.rec (motive := fun _ => Bool -> Bool) (fun b => b) Vh neg b))
def AM7 (x y : V) : Option V := mG (isStr x) (AA9 slt x y) (AFW ilt x y)
def AMa (x y : V) : Option V := mG (isStr x) (AA9 (fun l c m d => Vh (slt m d l c)) x y) (AFW ile x y)
def AMI (x y : V) : Option V := mG (isStr x) (AA9 (fun l c m d => slt m d l c) x y) (AFW (fun a b => ilt b a) x y)
def ALh (x y : V) : Option V := mG (isStr x) (AA9 (fun l c m d => Vh (slt l c m d)) x y) (AFW (fun a b => ile b a) x y)
def B2.ev (o : B2) : V -> V -> Option V := B2.rec (motive := fun _ => V -> V -> Option V)
 AMl ANs AOU (dvs Int.tdiv) AMB AM4 (AGU .or) (AGU .xor) (AGU .andNot) AM0 AMx AM7 AMa AMI ALh o
inductive AN where
 | mv (x : X)
 | pick (c a b : X)
 | ld1 (x : X)
 | ldn (n : Nat) (x : X)
 | AH2 (x : X)
 | bin (o : B2) (x y : X)
 | eq (k : EK) (neg : Bool) (x y : X)
 | not (x : X)
 | neg (x : X)
 | cvi (k : IntKind) (x : X)
 | AQl (f : Nat) (first caps : List X)
 | APW (off : Nat) (x : X)
 | field1 (off : Nat) (x : X)
 | AMq (off n : Nat) (x : X)
 | AN3 (esz : Nat) (x i : X)
 | ALr (n esz : Nat) (x i : X)
 | AQQ (x i : X)
 | AQS (n : Nat) (x i : X)
 | ext (x : X) (i : Nat)
 | WL (x : X)
 | AQz (x : X)
 | ANz (x : X)
 | AQN (n : Nat)
 | look (c : CK) (ok : Bool) (zero : V) (m k : X)
 | build (zero : List V) (parts : List (Nat × Nat × X))
 | AOu (x : X) (lo hi : Option X)
 | slc (esz : Nat) (x : X) (lo hi mx : Option X)
 | AQn (n esz : Nat) (x : X) (lo hi : Option X)
 | AQf (x y : X)
 | AQE (x y : X)
 | cvS (x : X)
 | AJ0 (s c : X)
 | AA9 (x y : X)
inductive AA where
 | alloc (esz : Nat) (es : List (List V))
 | box (x : X)
 | zI (esz cnt : Nat) (zero : List V) (parts : List (Nat × X))
 | qU (esz bytes : Nat) (zero : List V) (l c : X)
 | AGi
inductive AE where
 | asg (x : X)
 | st (n : Nat) (x v : X)
 | app (esz bytes : Nat) (x y : X)
 | copy (esz : Nat) (x y : X)
 | ADb (c : CK) (m k v : X)
 | del (c : CK) (m k : X)
 | AOm (m : X)
 | call (f : Nat) (args : List X)
 | AEP (x : X) (args : List X)
 | defer (dp : P2) (x : X) (args : List X)
 | cvB (x : X)
inductive AO where
 | n (o : AN) | a (o : AA) | e (o : AE)
inductive Zw where
 | no | to (p : P2) | ps
inductive Gd where
 | no | on (x : X) (b : Bool)
inductive jJ where
 | mk (d : Zw) (g : Gd) (o : AO)
def AJM (n : Int) : (Nat -> Option V) -> Option V := Int.rec (motive := fun _ => (Nat -> Option V) -> Option V) (fun m f => f m) (fun _ _ => none) n
def TM (v : V) (f : Nat -> Option V) : Option V := v.GU fun _ n s => BD (Nat.beq s 0) (AJM n f)
def Xc (x : Option X) : RS -> Nat -> (Nat -> Option V) -> Option V :=
 Option.rec (motive := fun _ => RS -> Nat -> (Nat -> Option V) -> Option V) (fun _ d f => f d) (fun x R _ f => TM (x.ev R) f) x
def f3 (a b c : Nat) (f : Nat -> Nat -> Nat -> V) : Option V := EP a fun a => EP b fun b => EP c fun c => some (f a b c)
def vX (R : RS) (lo hi mx : Option X) : Option V := Xc mx R 0 fun m => Xc hi R 0 fun h => Xc lo R 0 fun l => BD (band (Nat.ble l h) (band (Nat.ble h m) (Nat.beq m 0))) (some .Aa)
def ABn (z : Nat) (R : RS) (lo hi mx : Option X) (id off ln cap esz : Nat) : Option V := BD (Nat.beq z esz) (Xc mx R cap fun m => Xc hi R ln fun h => Xc lo R 0 fun l =>
 BD (band (Nat.ble l h) (band (Nat.ble h m) (Nat.ble m cap))) (f3 (Nat.add off l) (Nat.sub h l) (Nat.sub m l) fun o d c => .sl id o d c esz))
def qP (R : RS) (lo hi : Option X) (id off ln esz : Nat) : Option V := Xc hi R ln fun h => Xc lo R 0 fun l =>
 BD (band (Nat.ble l h) (Nat.ble h ln)) (f3 (Nat.add off l) (Nat.sub h l) 0 fun o d _ => .NM id o d esz)
def qO (R : RS) (lo hi : Option X) (mx : X) (id off ln esz : Nat) : Option V := TM (mx.ev R) fun m => Xc hi R 0 fun h => Xc lo R 0 fun l =>
 BD (band (Nat.ble l h) (band (Nat.ble h m) (Nat.ble m ln))) (f3 (Nat.add off l) (Nat.sub h l) (Nat.sub m l) fun o d c => .sl id o d c esz)
def lV (z : Nat) (R : RS) (lo hi mx : Option X) (id off ln esz : Nat) : Option V :=
 BD (Nat.beq z esz) (Option.rec (motive := fun _ => Option V) (qP R lo hi id off ln esz) (fun mx => qO R lo hi mx id off ln esz) mx)
def tJ (z : Nat) (R : RS) (lo hi mx : Option X) (b off ln cap esz : Nat) : Option V := Xc hi R ln fun h => Xc lo R 0 fun l =>
 Option.rec (motive := fun _ => Option V) (BD (band (Nat.ble l h) (Nat.ble h cap)) (f3 (Nat.add off (Nat.mul l z)) (Nat.sub h l) (Nat.sub cap l) fun o d c => .rsl b o d c esz)) (fun _ => none) mx
def qE (z : Nat) (x : V) (R : RS) (lo hi mx : Option X) : Option V := x.AKf (vX R lo hi mx) (ABn z R lo hi mx) (lV z R lo hi mx) (tJ z R lo hi mx)
def AE4 (x : V) (R : RS) (lo hi : Option X) : Option V :=
 x.QN fun ln c => Xc hi R ln fun h => Xc lo R 0 fun l => BD (band (Nat.ble l h) (Nat.ble h ln)) (f3 (Nat.sub h l) (ANn c l h) 0 fun d c _ => .str d c)
def Ai (esz : Nat) (x i : V) : Option V := TM i fun i => x.AKf none
 (fun id off ln _ e => BD (band (Nat.beq e esz) (Nat.blt i ln)) (EP (Nat.mul (Nat.add off i) esz) fun o => some (.ptr id o)))
 (fun id off ln e => BD (band (Nat.beq e esz) (Nat.blt i ln)) (EP (Nat.mul (Nat.add off i) esz) fun o => some (.ptr id o)))
 (fun b off ln _ _ => BD (Nat.blt i ln) (EP (Nat.add off (Nat.mul i esz)) fun o => some (.gptr b o)))
def AQ (off : Nat) (x : V) : Option V := x.ACi (fun id o => EP (Nat.add o off) fun o => some (.ptr id o)) (fun b o => EP (Nat.add o off) fun o => some (.gptr b o))
abbrev ME := List (V × V × Nat)
def Zo (c : CK) (k : V) (es : ME) : Nat -> Option (Option (Nat × V)) :=
 List.rec (motive := fun _ => Nat -> Option (Option (Nat × V))) (fun _ => some none)
  (fun e _ g i => A8 (c.eq e.1 k) fun r => Bool.rec (g (Nat.succ i)) (some (some (i, e.2.1))) r) es
def APG (b : Nh) : (ME -> Nat -> Option V) -> Option V := Nh.rec (motive := fun _ => (ME -> Nat -> Option V) -> Option V) (fun _ _ _ _ => none) (fun es c f => f es c) (fun _ => none) b
def OY (H : Heap) (m : V) (f : ME -> Nat -> Option V) : Option V := m.AC9 (f [] 0) fun id => Option.rec (motive := fun _ => (ME -> Nat -> Option V) -> Option V) (fun _ => none) APG (T.get H id) f
def pG (parts : List (Nat × Nat × X)) : RS -> List V -> List V :=
 List.rec (motive := fun _ => RS -> List V -> List V) (fun _ l => l) (fun p _ g R l => g R (ADa (Am (p.2.2.ev R)) p.1 l)) parts
def U2 (v : V) : Bool :=
 V.rec (motive_1 := fun _ => Bool) (motive_2 := fun _ => PUnit)
  (false)
  (fun _ _ _ => true)
  (fun _ => true)
  (fun _ _ => true)
  (true)
  (fun _ _ => true)
  (fun _ _ => true)
  (true)
  (fun _ _ _ _ _ => true)
  (fun _ _ _ _ => true)
  (fun _ _ _ _ _ => true)
  (true)
  (fun _ => true)
  (true)
  (fun _ _ _ _ _ => true)
  (fun _ _ => true)
  (fun _ _ => false)
  (true)
  (fun _ _ _ => true)
  ⟨⟩ (fun _ _ _ _ => ⟨⟩) v
def Yf (parts : List (Nat × Nat × X)) : RS -> Bool :=
 List.rec (motive := fun _ => RS -> Bool) (fun _ => true) (fun p _ g R => band (band (U2 (p.2.2.ev R)) (Nat.beq (len (Am (p.2.2.ev R))) p.2.1)) (g R)) parts
abbrev Df := List LV
def Bc (H : Heap) (id esz : Nat) (n : Nat) : Nat -> Option Df :=
 Nat.rec (motive := fun _ => Nat -> Option Df) (fun _ => some [])
  (fun _ g o => A8 (Xl H id (Nat.mul o esz) esz) fun L => A8 (g (Nat.succ o)) fun LS => some (L :: LS)) n
def Zz (G : AL) (b esz : Nat) (n : Nat) : Nat -> Option Df :=
 Nat.rec (motive := fun _ => Nat -> Option Df) (fun _ => some [])
  (fun _ g o => A8 (G b o esz) fun L => A8 (g (Nat.add o esz)) fun LS => some (L :: LS)) n
def Vd (n : Nat) : Nat -> Df :=
 Nat.rec (motive := fun _ => Nat -> Df) (fun _ => []) (fun _ g c => [.int .u8 (.ofNat (Nat.mod c 256)) 0] :: g (Nat.div c 256)) n
def elems (v : V) : (AL) -> (Heap) -> (Nat) -> Option Df :=
 V.rec (motive_1 := fun _ => (AL) -> (Heap) -> (Nat) -> Option Df) (motive_2 := fun _ => PUnit)
  (fun _ _ _ => none)
  (fun _ _ _ _ _ _ => none)
  (fun _ _ _ _ => none)
  (fun a b _ _ z => Bool.rec (motive := fun _ => Option Df) none (some (Vd a b)) (Nat.beq 1 z))
  (fun _ _ _ => none)
  (fun _ _ _ _ _ => none)
  (fun _ _ _ _ _ => none)
  (fun _ _ _ => some [])
  (fun a b c _ e _ H z => Bool.rec (motive := fun _ => Option Df) none (Bc H a z c b) (Nat.beq e z))
  (fun a b c d _ H z => Bool.rec (motive := fun _ => Option Df) none (Bc H a z c b) (Nat.beq d z))
  (fun a b c _ _ G _ z => Zz G a z c b)
  (fun _ _ _ => none)
  (fun _ _ _ _ => none)
  (fun _ _ _ => none)
  (fun _ _ _ _ _ _ _ _ => none)
  (fun _ _ _ _ _ => none)
  (fun _ _ _ _ _ => none)
  (fun _ _ _ => none)
  (fun _ _ _ _ _ _ => none)
  ⟨⟩ (fun _ _ _ _ => ⟨⟩) v
def byteOf (v : V) : Option Nat :=
 V.rec (motive_1 := fun _ => Option Nat) (motive_2 := fun _ => PUnit)
  (none)
  (fun a b c => Int.rec (motive := fun _ => Nat -> Option Nat) (fun m t => Bool.rec none (some m) (band (Nat.beq (kno a) 4) (band (Nat.blt m 256) (Nat.beq t 0)))) (fun _ _ => none) b c)
  (fun _ => none)
  (fun _ _ => none)
  (none)
  (fun _ _ => none)
  (fun _ _ => none)
  (none)
  (fun _ _ _ _ _ => none)
  (fun _ _ _ _ => none)
  (fun _ _ _ _ _ => none)
  (none)
  (fun _ => none)
  (none)
  (fun _ _ _ _ _ => none)
  (fun _ _ => none)
  (fun _ _ => none)
  (none)
  (fun _ _ _ => none)
  ⟨⟩ (fun _ _ _ _ => ⟨⟩) v
def xI (l : Df) : Option Nat :=
 List.rec (motive := fun _ => Option Nat) (some 0) (fun x _ g => A8 (nth x 0) fun v => A8 (byteOf v) fun m => A8 g fun c => some (Nat.add m (Nat.mul 256 c))) l
def sJ (b : Nat) (f : Nat) : Nat -> Nat -> Int :=
 Nat.rec (motive := fun _ => Nat -> Nat -> Int) (fun _ _ => .negSucc 0)
  (fun _ g c i => Bool.rec (g (Nat.div c 256) (Nat.succ i)) (.ofNat i) (Nat.beq (Nat.mod c 256) b)) f
abbrev bD := AL -> RS -> Heap -> Option V
def eMv (x : X) : bD := fun _ R _ => some (x.ev R)
def AEU (c a b : X) : bD := fun _ R _ => (c.ev R).bF fun t => mG t (some (a.ev R)) (some (b.ev R))
def AKR (x : X) : bD := fun G R H => QF (dw (x.ev R) G H 1) fun L => nth L 0
def AJz (n : Nat) (x : X) : bD := fun G R H => QF (dw (x.ev R) G H n) fun L => some (.agg L)
def AAK (x : X) : bD := fun _ R _ => Az (x.ev R)
def AJx (o : B2) (x y : X) : bD := fun _ R _ => o.ev (x.ev R) (y.ev R)
def eEq (k : EK) (neg : Bool) (x y : X) : bD := fun _ R _ => Dw k neg (x.ev R) (y.ev R)
def AJf (x : X) : bD := fun _ R _ => (x.ev R).bF fun b => xE (Vh b)
def AJK (x : X) : bD := fun _ R _ => (x.ev R).GU fun k n s => mkI k (Int.neg n) s
def AIx (k : IntKind) (x : X) : bD := fun _ R _ => (x.ev R).GU fun _ n s => mkI k n s
def AEr (f : Nat) (a c : List X) : bD := fun _ R _ => some (.fn f (Xt a R) (Xt c R))
def zN (off : Nat) (x : X) : bD := fun _ R _ => AQ off (x.ev R)
def ql (off : Nat) (x : X) : bD := fun _ R _ => (x.ev R).nS fun l => nth l off
def qp (off n : Nat) (x : X) : bD := fun _ R _ => (x.ev R).nS fun l => some (.agg (Ur n (aT off l)))
def zk (esz : Nat) (x i : X) : bD := fun _ R _ => Ai esz (x.ev R) (i.ev R)
def qZ (n esz : Nat) (x i : X) : bD := fun _ R _ => TM (i.ev R) fun i => BD (Nat.blt i n) (AQ (Nat.mul i esz) (x.ev R))
def AE8 (x i : X) : bD := fun _ R _ => (x.ev R).QN fun ln c => TM (i.ev R) fun i => BD (Nat.blt i ln) (EP (AGf c i) fun b => some (.int .u8 (.ofNat b) 0))
def AEf (n : Nat) (x i : X) : bD := fun _ R _ => (x.ev R).nS fun l => TM (i.ev R) fun i => BD (Nat.blt i n) (nth l i)
def AKW (x : X) (i : Nat) : bD := fun _ R _ => (x.ev R).ACF fun l => nth l i
def AEZ (x : X) : bD := fun _ R _ => (x.ev R).QN fun n _ => some (.int .i64 (.ofNat n) 0)
def AE6 (x : X) : bD := fun _ R _ => lenV (x.ev R)
def AEQ (x : X) : bD := fun _ R H => OY H (x.ev R) fun es _ => EP (len es) fun n => some (.int .i64 (.ofNat n) 0)
def AOz (n : Nat) : bD := fun _ _ _ => some (.int .i64 (.ofNat n) 0)
def AEn (ok : Bool) (z : V) (r : Option (Nat × V)) : Option V :=
 Option.rec (motive := fun _ => Option V) (mG ok (some (.II [z, .bool false])) (some z)) (fun p => mG ok (some (.II [p.2, .bool true])) (some p.2)) r
def AE1 (c : CK) (ok : Bool) (z : V) (m k : X) : bD := fun _ R H => OY H (m.ev R) fun es _ => A8 (Zo c (k.ev R) es 0) (AEn ok z)
def AAI (z : LV) (ps : List (Nat × Nat × X)) : bD := fun _ R _ => BD (Yf ps R) (some (.agg (pG ps R z)))
def rJ (x : X) (lo hi : Option X) : bD := fun _ R _ => AE4 (x.ev R) R lo hi
def AIt (z : Nat) (x : X) (lo hi mx : Option X) : bD := fun _ R _ => qE z (x.ev R) R lo hi mx
def AER (n esz : Nat) (x : X) (lo hi : Option X) : bD := fun _ R _ => (x.ev R).ACi (fun id o => Xc hi R n fun h => Xc lo R 0 fun l =>
 BD (band (Nat.beq (Nat.mod o esz) 0) (band (Nat.ble l h) (Nat.ble h n))) (f3 (Nat.add (Nat.div o esz) l) (Nat.sub h l) (Nat.sub n l) fun a b c => .sl id a b c esz)) (fun _ _ => none)
def AJd (x y : X) : bD := fun _ R _ => (x.ev R).GU fun k a s => (y.ev R).GU fun k' b t => BD (band (keq k k') (Nat.beq (Nat.add s t) 0)) (some (.int k (Bool.rec a b (ilt a b)) 0))
def AJa (x y : X) : bD := fun _ R _ => (x.ev R).GU fun k a s => (y.ev R).GU fun k' b t => BD (band (keq k k') (Nat.beq (Nat.add s t) 0)) (some (.int k (Bool.rec a b (ilt b a)) 0))
def AJb (x : X) : bD := fun G R H => BD (Vh (isStr (x.ev R))) (A8 (elems (x.ev R) G H 1) fun l => A8 (xI l) fun c => f3 (len l) c 0 fun n c _ => .str n c)
def AAb (s c : X) : bD := fun _ R _ => (s.ev R).QN fun n cd => (c.ev R).GU fun k b _ => BD (Nat.beq (kno k) 4) (AJM b fun b => BD (Nat.blt b 256) (OV (sJ b n cd 0) fun i => some (.int .i64 i 0)))
def AGd (x y : V) : Option V := x.QN fun l c => y.QN fun m d => some (.int .i64 (Bool.rec (Bool.rec (.ofNat 0) (.ofNat 1) (slt m d l c)) (.negSucc 0) (slt l c m d)) 0)
def AE2 (x y : X) : bD := fun _ R _ => AGd (x.ev R) (y.ev R)
def AN.ev (o : AN) : bD := AN.rec (motive := fun _ => bD)
 eMv AEU AKR AJz AAK AJx eEq AJf AJK AIx AEr zN ql qp zk qZ AE8 AEf AKW AEZ AE6 AEQ AOz AE1 AAI rJ AIt AER AJd AJa AJb AAb AE2 o
def jM (L : LV) (n : Nat) : T LV -> T LV :=
 Nat.rec (motive := fun _ => T LV -> T LV) (fun t => t) (fun i g t => g (T.set t i L)) n
def EH (LS : Df) : Nat -> T LV -> T LV :=
 List.rec (motive := fun _ => Nat -> T LV -> T LV) (fun _ t => t) (fun L _ g i t => g (Nat.succ i) (T.set t i L)) LS
def Yv (parts : List (Nat × X)) : RS -> T LV -> T LV :=
 List.rec (motive := fun _ => RS -> T LV -> T LV) (fun _ t => t) (fun p _ g R t => g R (T.set t p.1 (Am (p.2.ev R)))) parts
def U3 (parts : List (Nat × X)) : RS -> Nat -> Nat -> Bool :=
 List.rec (motive := fun _ => RS -> Nat -> Nat -> Bool) (fun _ _ _ => true) (fun p _ g R esz cnt => band (band (U2 (p.2.ev R)) (band (Nat.blt p.1 cnt) (Nat.beq (len (Am (p.2.ev R))) esz))) (g R esz cnt)) parts
def V.AHT (v : V) : (Nat -> Prop) -> Prop :=
 V.rec (motive_1 := fun _ => (Nat -> Prop) -> Prop) (motive_2 := fun _ => PUnit)
  (fun _ => False)
  (fun _ _ _ _ => False)
  (fun _ _ => False)
  (fun _ _ _ => False)
  (fun _ => False)
  (fun a _ f => f a)
  (fun _ _ _ => False)
  (fun _ => False)
  (fun _ _ _ _ _ _ => False)
  (fun _ _ _ _ _ => False)
  (fun _ _ _ _ _ _ => False)
  (fun _ => False)
  (fun _ _ => False)
  (fun _ => False)
  (fun _ _ _ _ _ _ => False)
  (fun _ _ _ => False)
  (fun _ _ _ => False)
  (fun _ => False)
  (fun _ _ _ _ => False)
  ⟨⟩ (fun _ _ _ _ => ⟨⟩) v
def V.qm (v : V) : (Nat -> Nat -> Prop) -> Prop :=
 V.rec (motive_1 := fun _ => (Nat -> Nat -> Prop) -> Prop) (motive_2 := fun _ => PUnit)
  (fun _ => False)
  (fun _ _ _ _ => False)
  (fun _ _ => False)
  (fun _ _ _ => False)
  (fun _ => False)
  (fun a b f => f a b)
  (fun _ _ _ => False)
  (fun _ => False)
  (fun _ _ _ _ _ _ => False)
  (fun _ _ _ _ _ => False)
  (fun _ _ _ _ _ _ => False)
  (fun _ => False)
  (fun _ _ => False)
  (fun _ => False)
  (fun _ _ _ _ _ _ => False)
  (fun _ _ _ => False)
  (fun _ _ _ => False)
  (fun _ => False)
  (fun _ _ _ _ => False)
  ⟨⟩ (fun _ _ _ _ => ⟨⟩) v
abbrev KA := Nh -> (Nat -> V) -> Prop
abbrev AlT := RS -> KA -> Prop
def Ko (b : Bool) (p : Prop) : Prop := Bool.rec (motive := fun _ => Prop -> Prop) (fun _ => False) (fun p => p) b p
def zi (v : V) (f : Nat -> Prop) : Prop := He (TM v fun n => some (.ptr n 0)) fun v => V.AHT v f
def Ag (esz : Nat) (es : Df) : AlT := fun _ k => CU (len es) fun n => k (.arr esz n (EH es 0 .e)) fun id => .ptr id 0
def wU (x : X) : AlT := fun R k => Ko (U2 (x.ev R)) (CU (len (Am (x.ev R))) fun e => k (.arr e 1 (T.set .e 0 (Am (x.ev R)))) fun id => .ptr id 0)
def Au (esz cnt : Nat) (z : LV) (ps : List (Nat × X)) : AlT := fun R k => Ko (U3 ps R esz cnt) (k (.arr esz cnt (Yv ps R (jM z cnt .e))) fun id => .sl id 0 cnt cnt esz)
def KR (esz bs : Nat) (z : LV) (l c : X) : AlT := fun R k => zi (l.ev R) fun l => zi (c.ev R) fun c =>
 Ko (band (Nat.ble l c) (Nat.ble (Nat.mul bs c) 281474976710656)) (k (.arr esz c (jM z c .e)) fun id => .sl id 0 l c esz)
def vI : AlT := fun _ k => k (.map [] 0) fun id => .map id
def AA.al (o : AA) : AlT := AA.rec (motive := fun _ => AlT) Ag wU Au KR vI o
abbrev K := G6 -> Heap -> Nat -> Prop
abbrev KV := V -> Heap -> Nat -> Prop
abbrev AV := Nat -> List V -> Heap -> Nat -> KV -> Prop
def N9 (need bytes : Nat) : Bool := Nat.ble (Nat.mul need bytes) 140737488355328
abbrev ADR := AL -> Nat -> Nat -> Df -> Heap -> Nat -> KV -> Prop
def Iq (esz bs : Nat) (OS LS : Df) (H : Heap) (n : Nat) (k : KV) : Prop :=
 CU (Nat.add (len OS) (len LS)) fun need => Ko (N9 need bs) (CU n fun n => k (.NM n 0 need esz) (T.set H n (.arr esz need (EH LS (len OS) (EH OS 0 .e)))) (Nat.succ n))
def ANP : ADR := fun _ esz bs LS H n k => List.rec (motive := fun _ => Prop) (k .Aa H n) (fun _ _ _ => Iq esz bs [] LS H n k) LS
def eG (id off ln cap esz need : Nat) (LS : Df) (H : Heap) (n : Nat) (k : KV) (b : Nh) : Prop :=
 Nh.rec (motive := fun _ => Prop) (fun esz' cnt c => Ko (band (Nat.beq esz esz') (Nat.ble (Nat.add off need) cnt)) (k (.sl id off need cap esz) (T.set H id (.arr esz cnt (EH LS (Nat.add off ln) c))) n)) (fun _ _ => False) False b
def AK1 (id off ln cap e : Nat) : ADR := fun _ esz bs LS H n k => Ko (Nat.beq e esz) (CU (Nat.add ln (len LS)) fun need =>
 Bool.rec (motive := fun _ => Prop) (He (Bc H id esz ln off) fun OS => Iq esz bs OS LS H n k) (He (T.get H id) fun b => eG id off ln cap esz need LS H n k b) (Nat.ble need cap))
def Wu (id off ln esz bs : Nat) (LS : Df) (H : Heap) (n : Nat) (k : KV) (b : Nh) : Prop :=
 Nh.rec (motive := fun _ => Prop) (fun esz' cnt c => CU (Nat.add ln (len LS)) fun need => Ko (band (N9 need bs) (band (Nat.beq esz esz') (Nat.ble (Nat.add off ln) cnt)))
  (CU n fun n => Nat.rec (motive := fun _ => Prop)
   (k (.NM n 0 need esz) (T.set (T.set H id .dead) n (.arr esz need (EH LS ln c))) (Nat.succ n))
   (fun _ _ => He (Bc H id esz ln off) fun OS => k (.NM n 0 need esz) (T.set (T.set H id .dead) n (.arr esz need (EH LS ln (EH OS 0 .e)))) (Nat.succ n)) off))
  (fun _ _ => False) False b
def AHM (id off ln e : Nat) : ADR := fun _ esz bs LS H n k => Ko (Nat.beq e esz) (List.rec (motive := fun _ => Prop) (k (.NM id off ln esz) H n)
 (fun _ _ _ => He (T.get H id) fun b => Wu id off ln esz bs LS H n k b) LS)
def AHf (b off ln cap e : Nat) : ADR := fun G esz bs LS H n k => Ko (Nat.blt cap (Nat.add ln (len LS))) (He (Zz G b esz ln off) fun OS => Iq esz bs OS LS H n k)
def V4 : ADR := fun _ _ _ _ _ _ _ => False
def zZ (v : V) : ADR :=
 V.rec (motive_1 := fun _ => ADR) (motive_2 := fun _ => PUnit)
  (V4)
  (fun _ _ _ => V4)
  (fun _ => V4)
  (fun _ _ => V4)
  (V4)
  (fun _ _ => V4)
  (fun _ _ => V4)
  (ANP)
  (fun a b c d e => AK1 a b c d e)
  (fun a b c d => AHM a b c d)
  (fun a b c d e => AHf a b c d e)
  (V4)
  (fun _ => V4)
  (V4)
  (fun _ _ _ _ _ => V4)
  (fun _ _ => V4)
  (fun _ _ => V4)
  (V4)
  (fun _ _ _ => V4)
  ⟨⟩ (fun _ _ _ _ => ⟨⟩) v
def AGK (id off esz : Nat) (LS : Df) (H : Heap) (n : Nat) (k : KV) (b : Nh) : Prop :=
 Nh.rec (motive := fun _ => Prop) (fun esz' cnt c => Ko (band (Nat.beq esz esz') (Nat.ble (Nat.add off (len LS)) cnt)) (CU (len LS) fun m => k (.int .i64 (.ofNat m) 0) (T.set H id (.arr esz cnt (EH LS off c))) n)) (fun _ _ => False) False b
abbrev CpT := Nat -> Df -> Heap -> Nat -> KV -> Prop
def uP (id off ln : Nat) : CpT := fun esz LS H n k => He (T.get H id) fun b => AGK id off esz (Ur ln LS) H n k b
def xQ (v : V) : (Nat) -> (Df) -> (Heap) -> (Nat) -> (KV) -> Prop :=
 V.rec (motive_1 := fun _ => (Nat) -> (Df) -> (Heap) -> (Nat) -> (KV) -> Prop) (motive_2 := fun _ => PUnit)
  (fun _ _ _ _ _ => False)
  (fun _ _ _ _ _ _ _ _ => False)
  (fun _ _ _ _ _ _ => False)
  (fun _ _ _ _ _ _ _ => False)
  (fun _ _ _ _ _ => False)
  (fun _ _ _ _ _ _ _ => False)
  (fun _ _ _ _ _ _ _ => False)
  (fun _ _ H n k => k (.int .i64 (.ofNat 0) 0) H n)
  (fun a b c _ e z L H n k => Ko (Nat.beq e z) (uP a b c z L H n k))
  (fun a b c d z L H n k => Ko (Nat.beq d z) (uP a b c z L H n k))
  (fun _ _ _ _ _ _ _ _ _ _ => False)
  (fun _ _ _ _ _ => False)
  (fun _ _ _ _ _ _ => False)
  (fun _ _ _ _ _ => False)
  (fun _ _ _ _ _ _ _ _ _ _ => False)
  (fun _ _ _ _ _ _ _ => False)
  (fun _ _ _ _ _ _ _ => False)
  (fun _ _ _ _ _ => False)
  (fun _ _ _ _ _ _ _ _ => False)
  ⟨⟩ (fun _ _ _ _ => ⟨⟩) v
def sV {α : Type} (l : List α) : Nat -> List α :=
 List.rec (motive := fun _ => Nat -> List α) (fun _ => []) (fun y ys g i => Nat.rec (motive := fun _ => List α) ys (fun i _ => y :: g i) i) l
def AK0 (b : Nh) : (ME -> Nat -> Option Nh) -> Option Nh := Nh.rec (motive := fun _ => (ME -> Nat -> Option Nh) -> Option Nh) (fun _ _ _ _ => none) (fun es c f => f es c) (fun _ => none) b
def AN7 (H : Heap) (id : Nat) (f : ME -> Nat -> Option Nh) (g : Heap -> Prop) : Prop := He (T.get H id) fun b => He (AK0 b f) fun b => g (T.set H id b)
def wS (v : V) : (Heap) -> (ME -> Nat -> Option Nh) -> (Heap -> Prop) -> Prop :=
 V.rec (motive_1 := fun _ => (Heap) -> (ME -> Nat -> Option Nh) -> (Heap -> Prop) -> Prop) (motive_2 := fun _ => PUnit)
  (fun _ _ _ => False)
  (fun _ _ _ _ _ _ => False)
  (fun _ _ _ _ => False)
  (fun _ _ _ _ _ => False)
  (fun _ _ _ => False)
  (fun _ _ _ _ _ => False)
  (fun _ _ _ _ _ => False)
  (fun _ _ _ => False)
  (fun _ _ _ _ _ _ _ _ => False)
  (fun _ _ _ _ _ _ _ => False)
  (fun _ _ _ _ _ _ _ _ => False)
  (fun _ _ _ => False)
  (fun a H f g => AN7 H a f g)
  (fun _ _ _ => False)
  (fun _ _ _ _ _ _ _ _ => False)
  (fun _ _ _ _ _ => False)
  (fun _ _ _ _ _ => False)
  (fun _ _ _ => False)
  (fun _ _ _ _ _ _ => False)
  ⟨⟩ (fun _ _ _ _ => ⟨⟩) v
def V.UC (v : V) : (Nat -> LV -> LV -> Prop) -> Prop :=
 V.rec (motive_1 := fun _ => (Nat -> LV -> LV -> Prop) -> Prop) (motive_2 := fun _ => PUnit)
  (fun _ => False)
  (fun _ _ _ _ => False)
  (fun _ _ => False)
  (fun _ _ _ => False)
  (fun _ => False)
  (fun _ _ _ => False)
  (fun _ _ _ => False)
  (fun _ => False)
  (fun _ _ _ _ _ _ => False)
  (fun _ _ _ _ _ => False)
  (fun _ _ _ _ _ _ => False)
  (fun _ => False)
  (fun _ _ => False)
  (fun _ => False)
  (fun a b c _ _ f => f a b c)
  (fun _ _ _ => False)
  (fun _ _ _ => False)
  (fun _ => False)
  (fun _ _ _ _ => False)
  ⟨⟩ (fun _ _ _ _ => ⟨⟩) v
def ABo (v : V) : LV :=
 V.rec (motive_1 := fun _ => LV) (motive_2 := fun _ => PUnit)
  ([])
  (fun _ _ _ => [])
  (fun _ => [])
  (fun _ _ => [])
  ([])
  (fun _ _ => [])
  (fun _ _ => [])
  ([])
  (fun _ _ _ _ _ => [])
  (fun _ _ _ _ => [])
  (fun _ _ _ _ _ => [])
  ([])
  (fun _ => [])
  ([])
  (fun _ _ _ _ _ => [])
  (fun _ _ => [])
  (fun a _ => a)
  ([])
  (fun _ _ _ => [])
  ⟨⟩ (fun _ _ _ _ => ⟨⟩) v
abbrev ExT := AL -> AV -> RS -> Heap -> Nat -> KV -> Prop
def ARF (x : X) : ExT := fun _ _ R H n k => k (x.ev R) H n
def xSt (sz : Nat) (x v : X) : ExT := fun _ _ R H n k => Ko (band (U2 (v.ev R)) (Nat.beq (len (Am (v.ev R))) sz)) (He (stP (x.ev R) H sz (Am (v.ev R))) fun H => k .undef H n)
def AQL (esz bs : Nat) (x y : X) : ExT := fun G _ R H n k => He (elems (y.ev R) G H esz) fun LS => zZ (x.ev R) G esz bs LS H n k
def AOG (esz : Nat) (x y : X) : ExT := fun G _ R H n k => He (elems (y.ev R) G H esz) fun LS => xQ (x.ev R) esz LS H n k
def AD7 (ck : CK) (key v : V) (es : ME) (c : Nat) : Option Nh := A8 (Zo ck key es 0) fun r =>
 Option.rec (motive := fun _ => Option Nh) (some (.map (cat es [(key, v, c)]) (Nat.succ c))) (fun p => A8 (nth es p.1) fun e => some (.map (Yg (e.1, v, e.2.2) es p.1) c)) r
def AMj (ck : CK) (key : V) (es : ME) (c : Nat) : Option Nh := A8 (Zo ck key es 0) fun r =>
 Option.rec (motive := fun _ => Option Nh) (some (.map es c)) (fun p => some (.map (sV es p.1) c)) r
def AQj (c : CK) (m key v : X) : ExT := fun _ _ R H n k => wS (m.ev R) H (AD7 c (key.ev R) (v.ev R)) fun H => k .undef H n
def AQc (c : CK) (m key : X) : ExT := fun _ _ R H n k => wS (m.ev R) H (AMj c (key.ev R)) fun H => k (.II []) H n
def AQd (m : X) : ExT := fun _ _ R H n k => wS (m.ev R) H (fun _ c => some (.map [] c)) fun H => k (.II []) H n
def AOj (f : Nat) (args : List X) : ExT := fun _ call R H n k => call f (Xt args R) H n k
def ALK (x : X) (args : List X) : ExT := fun _ call R H n k => V.UC (x.ev R) fun f a c => call f (cat a (cat (Xt args R) c)) H n k
def AMp (dp : P2) (x : X) (args : List X) : ExT := fun _ _ R H n k => V.UC (x.ev R) fun f a c => k (.II (.fn f (cat a (Xt args R)) c :: ABo (KJ (T.C9 dp R.rg)))) H n
def AQR (x : X) : ExT := fun _ _ R H n k => He ((x.ev R).QN fun l c => some (.ptr l c)) fun v => V.qm v fun l c =>
 CU n fun n => k (.NM n 0 l 1) (T.set H n (.arr 1 l (EH (Vd l c) 0 .e))) (Nat.succ n)
def AE.ex (o : AE) : ExT := AE.rec (motive := fun _ => ExT) ARF xSt AQL AOG AQj AQc AQd AOj ALK AMp AQR o
def AQA (p : P2) (v : V) (E : RS) : RS := RS.rec (motive := fun _ => P2 -> V -> RS) (fun L R p v => .mk L (T.Xq v p R)) E p v
def AOb (v : V) (E : RS) : RS := RS.rec (motive := fun _ => V -> RS) (fun L R v => .mk (v :: L) R) E v
def ET (d : Zw) (v : V) : RS -> RS := Zw.rec (motive := fun _ => V -> RS -> RS) (fun _ R => R) AQA AOb d v
abbrev KE := RS -> Heap -> Nat -> Prop
abbrev XoT := AL -> AV -> Zw -> RS -> Heap -> Nat -> KE -> Prop
def oN (o : AN) : XoT := fun G _ d R H n k => AP (o.ev G R H) fun v => k (ET d v R) H n
def oA (o : AA) : XoT := fun _ _ d R H n k => o.al R fun b f => CU n fun n => k (ET d (f n) R) (T.set H n b) (Nat.succ n)
def oE (o : AE) : XoT := fun G call d R H n k => o.ex G call R H n fun v H n => k (ET d v R) H n
def AO.ex (o : AO) : XoT := AO.rec (motive := fun _ => XoT) oN oA oE o
def Ad (v : V) (b : Bool) (yes no : Prop) : Prop := v.AAy fun t => Bool.rec (motive := fun _ => Prop -> Prop -> Prop) (fun _ n => n) (fun y _ => y) (AHx t b) yes no
def ZJ (v : V) : (Bool) -> (Prop) -> (Prop) -> Prop :=
 V.rec (motive_1 := fun _ => (Bool) -> (Prop) -> (Prop) -> Prop) (motive_2 := fun _ => PUnit)
  (fun _ _ _ => False)
  (fun _ _ _ _ _ _ => False)
  (fun a b' yes no => Bool.rec (motive := fun _ => Prop -> Prop -> Prop) (fun _ n => n) (fun y _ => y) (AHx a b') yes no)
  (fun _ _ _ _ _ => False)
  (fun _ _ _ => False)
  (fun _ _ _ _ _ => False)
  (fun _ _ _ _ _ => False)
  (fun _ _ _ => False)
  (fun _ _ _ _ _ _ _ _ => False)
  (fun _ _ _ _ _ _ _ => False)
  (fun _ _ _ _ _ _ _ _ => False)
  (fun _ _ _ => False)
  (fun _ _ _ _ => False)
  (fun _ _ _ => False)
  (fun _ _ _ _ _ _ _ _ => False)
  (fun _ _ _ _ _ => False)
  (fun a _ _ _ no => List.rec (motive := fun _ => Prop) no (fun _ _ _ => False) a)
  (fun _ _ _ => False)
  (fun _ _ _ _ _ _ => False)
  ⟨⟩ (fun _ _ _ _ => ⟨⟩) v
abbrev oh := AL -> AV -> RS -> Heap -> Nat -> KE -> Prop
def gNo (d : Zw) (o : AO) : oh := fun G call R H n k => o.ex G call d R H n k
def gOn (x : X) (b : Bool) (d : Zw) (o : AO) : oh := fun G call R H n k => ZJ (x.ev R) b (o.ex G call d R H n k) (k (ET d (.II []) R) H n)
def jJ.ex (o : jJ) : oh := jJ.rec (motive := fun _ => oh) (fun d g o => Gd.rec (motive := fun _ => Zw -> AO -> oh) gNo gOn g d o) o
def ABJ (v : V) : (IntKind) -> (Int) -> (Nat) -> Bool :=
 V.rec (motive_1 := fun _ => (IntKind) -> (Int) -> (Nat) -> Bool) (motive_2 := fun _ => PUnit)
  (fun _ _ _ => false)
  (fun a b c k n s => band (keq k a) (band (ieq n b) (band (Nat.beq s 0) (Nat.beq c 0))))
  (fun _ _ _ _ => false)
  (fun _ _ _ _ _ => false)
  (fun _ _ _ => false)
  (fun _ _ _ _ _ => false)
  (fun _ _ _ _ _ => false)
  (fun _ _ _ => false)
  (fun _ _ _ _ _ _ _ _ => false)
  (fun _ _ _ _ _ _ _ => false)
  (fun _ _ _ _ _ _ _ _ => false)
  (fun _ _ _ => false)
  (fun _ _ _ _ => false)
  (fun _ _ _ => false)
  (fun _ _ _ _ _ _ _ _ => false)
  (fun _ _ _ _ _ => false)
  (fun _ _ _ _ _ => false)
  (fun _ _ _ => false)
  (fun _ _ _ _ _ _ => false)
  ⟨⟩ (fun _ _ _ _ => ⟨⟩) v
def rG (v : V) : (Bool) -> Bool :=
 V.rec (motive_1 := fun _ => (Bool) -> Bool) (motive_2 := fun _ => PUnit)
  (fun _ => false)
  (fun _ _ _ _ => false)
  (fun a x => AHx x a)
  (fun _ _ _ => false)
  (fun _ => false)
  (fun _ _ _ => false)
  (fun _ _ _ => false)
  (fun _ => false)
  (fun _ _ _ _ _ _ => false)
  (fun _ _ _ _ _ => false)
  (fun _ _ _ _ _ _ => false)
  (fun _ => false)
  (fun _ _ => false)
  (fun _ => false)
  (fun _ _ _ _ _ _ => false)
  (fun _ _ _ => false)
  (fun _ _ _ => false)
  (fun _ => false)
  (fun _ _ _ _ => false)
  ⟨⟩ (fun _ _ _ _ => ⟨⟩) v
def AH0 (v : V) : (Nat) -> (Nat) -> Bool :=
 V.rec (motive_1 := fun _ => (Nat) -> (Nat) -> Bool) (motive_2 := fun _ => PUnit)
  (fun _ _ => false)
  (fun _ _ _ _ _ => false)
  (fun _ _ _ => false)
  (fun a b l m => band (Nat.beq l a) (Nat.beq m b))
  (fun _ _ => false)
  (fun _ _ _ _ => false)
  (fun _ _ _ _ => false)
  (fun _ _ => false)
  (fun _ _ _ _ _ _ _ => false)
  (fun _ _ _ _ _ _ => false)
  (fun _ _ _ _ _ _ _ => false)
  (fun _ _ => false)
  (fun _ _ _ => false)
  (fun _ _ => false)
  (fun _ _ _ _ _ _ _ => false)
  (fun _ _ _ _ => false)
  (fun _ _ _ _ => false)
  (fun _ _ => false)
  (fun _ _ _ _ _ => false)
  ⟨⟩ (fun _ _ _ _ => ⟨⟩) v
def zh (v : V) : Bool :=
 V.rec (motive_1 := fun _ => Bool) (motive_2 := fun _ => PUnit)
  (false)
  (fun _ _ _ => false)
  (fun _ => false)
  (fun _ _ => false)
  (true)
  (fun _ _ => false)
  (fun _ _ => false)
  (false)
  (fun _ _ _ _ _ => false)
  (fun _ _ _ _ => false)
  (fun _ _ _ _ _ => false)
  (false)
  (fun _ => false)
  (false)
  (fun _ _ _ _ _ => false)
  (fun _ _ => false)
  (fun _ _ => false)
  (false)
  (fun _ _ _ => false)
  ⟨⟩ (fun _ _ _ _ => ⟨⟩) v
def AAW (v : V) : Bool :=
 V.rec (motive_1 := fun _ => Bool) (motive_2 := fun _ => PUnit)
  (false)
  (fun _ _ _ => false)
  (fun _ => false)
  (fun _ _ => false)
  (false)
  (fun _ _ => false)
  (fun _ _ => false)
  (true)
  (fun _ _ _ _ _ => false)
  (fun _ _ _ _ => false)
  (fun _ _ _ _ _ => false)
  (false)
  (fun _ => false)
  (false)
  (fun _ _ _ _ _ => false)
  (fun _ _ => false)
  (fun _ _ => false)
  (false)
  (fun _ _ _ => false)
  ⟨⟩ (fun _ _ _ _ => ⟨⟩) v
def zS (v : V) : Bool :=
 V.rec (motive_1 := fun _ => Bool) (motive_2 := fun _ => PUnit)
  (false)
  (fun _ _ _ => false)
  (fun _ => false)
  (fun _ _ => false)
  (false)
  (fun _ _ => false)
  (fun _ _ => false)
  (false)
  (fun _ _ _ _ _ => false)
  (fun _ _ _ _ => false)
  (fun _ _ _ _ _ => false)
  (true)
  (fun _ => false)
  (false)
  (fun _ _ _ _ _ => false)
  (fun _ _ => false)
  (fun _ _ => false)
  (false)
  (fun _ _ _ => false)
  ⟨⟩ (fun _ _ _ _ => ⟨⟩) v
def zU (v : V) : Bool :=
 V.rec (motive_1 := fun _ => Bool) (motive_2 := fun _ => PUnit)
  (false)
  (fun _ _ _ => false)
  (fun _ => false)
  (fun _ _ => false)
  (false)
  (fun _ _ => false)
  (fun _ _ => false)
  (false)
  (fun _ _ _ _ _ => false)
  (fun _ _ _ _ => false)
  (fun _ _ _ _ _ => false)
  (false)
  (fun _ => false)
  (true)
  (fun _ _ _ _ _ => false)
  (fun _ _ => false)
  (fun _ _ => false)
  (false)
  (fun _ _ _ => false)
  ⟨⟩ (fun _ _ _ _ => ⟨⟩) v
def AGj (v : V) : (Nat) -> (Nat) -> Bool :=
 V.rec (motive_1 := fun _ => (Nat) -> (Nat) -> Bool) (motive_2 := fun _ => PUnit)
  (fun _ _ => false)
  (fun _ _ _ _ _ => false)
  (fun _ _ _ => false)
  (fun _ _ _ _ => false)
  (fun _ _ => false)
  (fun a b l m => band (Nat.beq l a) (Nat.beq m b))
  (fun _ _ _ _ => false)
  (fun _ _ => false)
  (fun _ _ _ _ _ _ _ => false)
  (fun _ _ _ _ _ _ => false)
  (fun _ _ _ _ _ _ _ => false)
  (fun _ _ => false)
  (fun _ _ _ => false)
  (fun _ _ => false)
  (fun _ _ _ _ _ _ _ => false)
  (fun _ _ _ _ => false)
  (fun _ _ _ _ => false)
  (fun _ _ => false)
  (fun _ _ _ _ _ => false)
  ⟨⟩ (fun _ _ _ _ => ⟨⟩) v
def ADu (v : V) : (Nat) -> (Nat) -> Bool :=
 V.rec (motive_1 := fun _ => (Nat) -> (Nat) -> Bool) (motive_2 := fun _ => PUnit)
  (fun _ _ => false)
  (fun _ _ _ _ _ => false)
  (fun _ _ _ => false)
  (fun _ _ _ _ => false)
  (fun _ _ => false)
  (fun _ _ _ _ => false)
  (fun a b l m => band (Nat.beq l a) (Nat.beq m b))
  (fun _ _ => false)
  (fun _ _ _ _ _ _ _ => false)
  (fun _ _ _ _ _ _ => false)
  (fun _ _ _ _ _ _ _ => false)
  (fun _ _ => false)
  (fun _ _ _ => false)
  (fun _ _ => false)
  (fun _ _ _ _ _ _ _ => false)
  (fun _ _ _ _ => false)
  (fun _ _ _ _ => false)
  (fun _ _ => false)
  (fun _ _ _ _ _ => false)
  ⟨⟩ (fun _ _ _ _ => ⟨⟩) v
def AHs (v : V) : (Nat) -> Bool :=
 V.rec (motive_1 := fun _ => (Nat) -> Bool) (motive_2 := fun _ => PUnit)
  (fun _ => false)
  (fun _ _ _ _ => false)
  (fun _ _ => false)
  (fun _ _ _ => false)
  (fun _ => false)
  (fun _ _ _ => false)
  (fun _ _ _ => false)
  (fun _ => false)
  (fun _ _ _ _ _ _ => false)
  (fun _ _ _ _ _ => false)
  (fun _ _ _ _ _ _ => false)
  (fun _ => false)
  (fun a l => Nat.beq l a)
  (fun _ => false)
  (fun _ _ _ _ _ _ => false)
  (fun _ _ _ => false)
  (fun _ _ _ => false)
  (fun _ => false)
  (fun _ _ _ _ => false)
  ⟨⟩ (fun _ _ _ _ => ⟨⟩) v
def AJo (v : V) : (Nat) -> (Nat) -> (Nat) -> (Nat) -> (Nat) -> Bool :=
 V.rec (motive_1 := fun _ => (Nat) -> (Nat) -> (Nat) -> (Nat) -> (Nat) -> Bool) (motive_2 := fun _ => PUnit)
  (fun _ _ _ _ _ => false)
  (fun _ _ _ _ _ _ _ _ => false)
  (fun _ _ _ _ _ _ => false)
  (fun _ _ _ _ _ _ _ => false)
  (fun _ _ _ _ _ => false)
  (fun _ _ _ _ _ _ _ => false)
  (fun _ _ _ _ _ _ _ => false)
  (fun _ _ _ _ _ => false)
  (fun a b c d e i j k l m => band (Nat.beq i a) (band (Nat.beq j b) (band (Nat.beq k c) (band (Nat.beq l d) (Nat.beq m e)))))
  (fun _ _ _ _ _ _ _ _ _ => false)
  (fun _ _ _ _ _ _ _ _ _ _ => false)
  (fun _ _ _ _ _ => false)
  (fun _ _ _ _ _ _ => false)
  (fun _ _ _ _ _ => false)
  (fun _ _ _ _ _ _ _ _ _ _ => false)
  (fun _ _ _ _ _ _ _ => false)
  (fun _ _ _ _ _ _ _ => false)
  (fun _ _ _ _ _ => false)
  (fun _ _ _ _ _ _ _ _ => false)
  ⟨⟩ (fun _ _ _ _ => ⟨⟩) v
def AFB (v : V) : (Nat) -> (Nat) -> (Nat) -> (Nat) -> Bool :=
 V.rec (motive_1 := fun _ => (Nat) -> (Nat) -> (Nat) -> (Nat) -> Bool) (motive_2 := fun _ => PUnit)
  (fun _ _ _ _ => false)
  (fun _ _ _ _ _ _ _ => false)
  (fun _ _ _ _ _ => false)
  (fun _ _ _ _ _ _ => false)
  (fun _ _ _ _ => false)
  (fun _ _ _ _ _ _ => false)
  (fun _ _ _ _ _ _ => false)
  (fun _ _ _ _ => false)
  (fun _ _ _ _ _ _ _ _ _ => false)
  (fun a b c d i j k l => band (Nat.beq i a) (band (Nat.beq j b) (band (Nat.beq k c) (Nat.beq l d))))
  (fun _ _ _ _ _ _ _ _ _ => false)
  (fun _ _ _ _ => false)
  (fun _ _ _ _ _ => false)
  (fun _ _ _ _ => false)
  (fun _ _ _ _ _ _ _ _ _ => false)
  (fun _ _ _ _ _ _ => false)
  (fun _ _ _ _ _ _ => false)
  (fun _ _ _ _ => false)
  (fun _ _ _ _ _ _ _ => false)
  ⟨⟩ (fun _ _ _ _ => ⟨⟩) v
def AIY (v : V) : (Nat) -> (Nat) -> (Nat) -> (Nat) -> (Nat) -> Bool :=
 V.rec (motive_1 := fun _ => (Nat) -> (Nat) -> (Nat) -> (Nat) -> (Nat) -> Bool) (motive_2 := fun _ => PUnit)
  (fun _ _ _ _ _ => false)
  (fun _ _ _ _ _ _ _ _ => false)
  (fun _ _ _ _ _ _ => false)
  (fun _ _ _ _ _ _ _ => false)
  (fun _ _ _ _ _ => false)
  (fun _ _ _ _ _ _ _ => false)
  (fun _ _ _ _ _ _ _ => false)
  (fun _ _ _ _ _ => false)
  (fun _ _ _ _ _ _ _ _ _ _ => false)
  (fun _ _ _ _ _ _ _ _ _ => false)
  (fun a b c d e i j k l m => band (Nat.beq i a) (band (Nat.beq j b) (band (Nat.beq k c) (band (Nat.beq l d) (Nat.beq m e)))))
  (fun _ _ _ _ _ => false)
  (fun _ _ _ _ _ _ => false)
  (fun _ _ _ _ _ => false)
  (fun _ _ _ _ _ _ _ _ _ _ => false)
  (fun _ _ _ _ _ _ _ => false)
  (fun _ _ _ _ _ _ _ => false)
  (fun _ _ _ _ _ => false)
  (fun _ _ _ _ _ _ _ _ => false)
  ⟨⟩ (fun _ _ _ _ => ⟨⟩) v
def SE (v : V) : (V) -> Bool :=
 V.rec (motive_1 := fun _ => (V) -> Bool) (motive_2 := fun _ => PUnit)
  (fun _ => false)
  (fun a b c y => ABJ y a b c)
  (fun a y => rG y a)
  (fun a b y => AH0 y a b)
  (fun y => zh y)
  (fun a b y => AGj y a b)
  (fun a b y => ADu y a b)
  (fun y => AAW y)
  (fun a b c d e y => AJo y a b c d e)
  (fun a b c d y => AFB y a b c d)
  (fun a b c d e y => AIY y a b c d e)
  (fun y => zS y)
  (fun a y => AHs y a)
  (fun y => zU y)
  (fun _ _ _ _ _ _ => false)
  (fun _ _ _ => false)
  (fun _ _ _ => false)
  (fun _ => false)
  (fun _ _ _ _ => false)
  ⟨⟩ (fun _ _ _ _ => ⟨⟩) v
def tY (a : List V) : List V -> Bool :=
 List.rec (motive := fun _ => List V -> Bool) (fun b => List.rec (motive := fun _ => Bool) true (fun _ _ _ => false) b)
  (fun x _ g b => List.rec (motive := fun _ => Bool) false (fun y ys _ => band (SE x y) (g ys)) b) a
def AKs (v : V) : (LV) -> Bool :=
 V.rec (motive_1 := fun _ => (LV) -> Bool) (motive_2 := fun _ => PUnit)
  (fun _ => false)
  (fun _ _ _ _ => false)
  (fun _ _ => false)
  (fun _ _ _ => false)
  (fun _ => false)
  (fun _ _ _ => false)
  (fun _ _ _ => false)
  (fun _ => false)
  (fun _ _ _ _ _ _ => false)
  (fun _ _ _ _ _ => false)
  (fun _ _ _ _ _ _ => false)
  (fun _ => false)
  (fun _ _ => false)
  (fun _ => false)
  (fun _ _ _ _ _ _ => false)
  (fun a _ l => tY l a)
  (fun _ _ _ => false)
  (fun _ => false)
  (fun _ _ _ _ => false)
  ⟨⟩ (fun _ _ _ _ => ⟨⟩) v
def AK2 (v : V) : (LV) -> Bool :=
 V.rec (motive_1 := fun _ => (LV) -> Bool) (motive_2 := fun _ => PUnit)
  (fun _ => false)
  (fun _ _ _ _ => false)
  (fun _ _ => false)
  (fun _ _ _ => false)
  (fun _ => false)
  (fun _ _ _ => false)
  (fun _ _ _ => false)
  (fun _ => false)
  (fun _ _ _ _ _ _ => false)
  (fun _ _ _ _ _ => false)
  (fun _ _ _ _ _ _ => false)
  (fun _ => false)
  (fun _ _ => false)
  (fun _ => false)
  (fun _ _ _ _ _ _ => false)
  (fun _ _ _ => false)
  (fun a _ l => tY l a)
  (fun _ => false)
  (fun _ _ _ _ => false)
  ⟨⟩ (fun _ _ _ _ => ⟨⟩) v
def ABE (v : V) : Bool :=
 V.rec (motive_1 := fun _ => Bool) (motive_2 := fun _ => PUnit)
  (true)
  (fun _ _ _ => false)
  (fun _ => false)
  (fun _ _ => false)
  (false)
  (fun _ _ => false)
  (fun _ _ => false)
  (false)
  (fun _ _ _ _ _ => false)
  (fun _ _ _ _ => false)
  (fun _ _ _ _ _ => false)
  (false)
  (fun _ => false)
  (false)
  (fun _ _ _ _ _ => false)
  (fun _ _ => false)
  (fun _ _ => false)
  (false)
  (fun _ _ _ => false)
  ⟨⟩ (fun _ _ _ _ => ⟨⟩) v
def GN (v : V) : (V) -> Bool :=
 V.rec (motive_1 := fun _ => (V) -> Bool) (motive_2 := fun _ => PUnit)
  (fun y => ABE y)
  (fun a b c y => ABJ y a b c)
  (fun a y => rG y a)
  (fun a b y => AH0 y a b)
  (fun y => zh y)
  (fun a b y => AGj y a b)
  (fun a b y => ADu y a b)
  (fun y => AAW y)
  (fun a b c d e y => AJo y a b c d e)
  (fun a b c d y => AFB y a b c d)
  (fun a b c d e y => AIY y a b c d e)
  (fun y => zS y)
  (fun a y => AHs y a)
  (fun y => zU y)
  (fun _ _ _ _ _ _ => false)
  (fun a _ y => AKs y a)
  (fun a _ y => AK2 y a)
  (fun _ => false)
  (fun _ _ _ _ => false)
  ⟨⟩ (fun _ _ _ _ => ⟨⟩) v
inductive AI where
 | op (o : jJ)
 | re (d : P2) (g : Gd) (o : AN)
inductive AC where
 | skip
 | ops (l : List jJ)
 | reg (l : List AI)
 | seq (a b : AC)
 | cond (x : X) (a b : AC)
 | block (id : Nat) (c : AC)
 | loop (c : AC)
 | exit (id : Nat)
 | ret
def Nk (l : List jJ) : oh :=
 List.rec (motive := fun _ => oh) (fun _ _ R H n k => k R H n) (fun o _ g G call R H n k => o.ex G call R H n fun R H n => g G call R H n k) l
abbrev ReT := AL -> RS -> Heap -> P2 -> AN -> Prop -> Prop
def AO2 : ReT := fun G R H d o k => AP (o.ev G R H) fun v => Ko (GN v (KJ (T.C9 d R.rg))) k
def AQs (x : X) (b : Bool) : ReT := fun G R H d o k => ZJ (x.ev R) b (AP (o.ev G R H) fun v => Ko (GN v (KJ (T.C9 d R.rg))) k) k
def ANW (g : Gd) : ReT := Gd.rec (motive := fun _ => ReT) AO2 AQs g
def AI.ex (i : AI) : oh := AI.rec (motive := fun _ => oh) (fun o => o.ex) (fun d g o G _ R H n k => ANW g G R H d o (k R H n)) i
def BQ (l : List AI) : oh :=
 List.rec (motive := fun _ => oh) (fun _ _ R H n k => k R H n) (fun i _ g G call R H n k => i.ex G call R H n fun R H n => g G call R H n k) l
abbrev KX := Nat -> K
abbrev M := AL -> AV -> Nat -> G6 -> Heap -> Nat -> K -> KX -> K -> Prop
def AIA : M := fun _ _ _ R H n k _ _ => k R H n
def AKe (l : List jJ) : M := fun G call _ R H n k _ _ => Nk l G call (.mk [] R) H n fun E H n => k E.rg H n
def AJk (l : List AI) : M := fun G call _ R H n k _ _ => BQ l G call (.mk [] R) H n fun E H n => k E.rg H n
def AHC (_ _ : AC) (a b : M) : M := fun G call lf R H n k x r => a G call lf R H n (fun R H n => b G call lf R H n k x r) x r
def ACC (c : X) (_ _ : AC) (a b : M) : M := fun G call lf R H n k x r => Ad (c.ev (.mk [] R)) true (a G call lf R H n k x r) (b G call lf R H n k x r)
def FH (id : Nat) (k : K) (x : KX) : KX := fun i R H n => Bool.rec (motive := fun _ => Prop -> Prop -> Prop) (fun a _ => a) (fun _ b => b) (Nat.beq i id) (x i R H n) (k R H n)
def vP (id : Nat) (_ : AC) (a : M) : M := fun G call lf R H n k x r => a G call lf R H n k (FH id k x) r
def Tt (a : M) (G : AL) (call : AV) (lf0 lf : Nat) : G6 -> Heap -> Nat -> KX -> K -> Prop :=
 Nat.rec (motive := fun _ => G6 -> Heap -> Nat -> KX -> K -> Prop) (fun _ _ _ _ _ => False) (fun _ g R H n x r => a G call lf0 R H n (fun R H n => g R H n x r) x r) lf
def AOS (_ : AC) (a : M) : M := fun G call lf R H n _ x r => Tt a G call lf lf R H n x r
def AIT (id : Nat) : M := fun _ _ _ R H n _ x _ => x id R H n
def ANN : M := fun _ _ _ R H n _ _ r => r R H n
def AC.ex (c : AC) : M := AC.rec (motive := fun _ => M) AIA AKe AJk AHC ACC vP AOS AIT ANN c
inductive AR where
 | tmp (p : P2) | cell1 (p : P2) | celln (p : P2) (n : Nat)
inductive AF where
 | mk (np : Nat) (code : AC) (res : List AR) (dp : Zw) (dg : Nat)
def AR.get (r : AR) : AL -> G6 -> Heap -> Option V :=
 AR.rec (motive := fun _ => AL -> G6 -> Heap -> Option V) (fun p _ R _ => some (KJ (T.C9 p R))) (fun p G R H => QF (dw (KJ (T.C9 p R)) G H 1) fun L => nth L 0)
  (fun p n G R H => QF (dw (KJ (T.C9 p R)) G H n) fun L => some (.agg L)) r
def nR (l : List AR) : AL -> G6 -> Heap -> Option LV :=
 List.rec (motive := fun _ => AL -> G6 -> Heap -> Option LV) (fun _ _ _ => some []) (fun r _ g G R H => A8 (r.get G R H) fun v => A8 (g G R H) fun vs => some (v :: vs)) l
def Kr (l : List V) : V := List.rec (motive := fun _ => V) (V.II []) (fun v vs _ => List.rec (motive := fun _ => V) v (fun w ws _ => V.II (v :: w :: ws)) vs) l
def Xp (args : List V) : Nat -> G6 -> G6 :=
 List.rec (motive := fun _ => Nat -> G6 -> G6) (fun _ R => R) (fun v _ g i R => g (Nat.succ i) (T.set R i v)) args
def QL (dg : Nat) (l : List V) : AV -> Heap -> Nat -> (Heap -> Nat -> Prop) -> Prop :=
 List.rec (motive := fun _ => AV -> Heap -> Nat -> (Heap -> Nat -> Prop) -> Prop) (fun _ H n k => k H n)
  (fun v _ g call H n k => V.UC v fun f a c => Ko (Nat.beq f dg) (call f (cat a c) H n fun _ H n => g call H n k)) l
def wP (res : List AR) (G : AL) (k : KV) : K := fun R H n => He (nR res G R H) fun l => k (Kr l) H n
def G9 (res : List AR) (dg : Nat) (d : Zw) : AL -> AV -> KV -> K :=
 Zw.rec (motive := fun _ => AL -> AV -> KV -> K) (fun G _ k => wP res G k) (fun p G call k R H n => QL dg (ABo (KJ (T.C9 p R))) call H n fun H n => wP res G k R H n) (fun G _ k => wP res G k) d
def noX : KX := fun _ _ _ _ => False
def eP (f : AF) : AL -> AV -> Nat -> List V -> Heap -> Nat -> KV -> Prop :=
 AF.rec (motive := fun _ => AL -> AV -> Nat -> List V -> Heap -> Nat -> KV -> Prop) (fun np code res d dg G call lf args H n k => Ko (Nat.beq (len args) np) (code.ex G call lf (Xp args 0 .e) H n (G9 res dg d G call k) noX (G9 res dg d G call k))) f
def run (F : T AF) (G : AL) (lf : Nat) (fuel : Nat) : AV :=
 Nat.rec (motive := fun _ => AV) (fun _ _ _ _ _ => False) (fun _ call f args H n k => He (T.get F f) fun af => eP af G call lf args H n k) fuel
end Go.Ba
