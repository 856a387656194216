/- Part of a proof: texts En1 En2 of the engine and what is proved with it; nothing is assumed. -/
import Derived.Calls
import Derived.Defers
import Derived.Orders
import Derived.KernelRfl
import Derived.Laws.Entries
set_option linter.unusedVariables false
set_option linter.unusedSimpArgs false
noncomputable section
namespace Go.Ba
inductive P2 where
 | h | z (p : P2) | o (p : P2)
deriving DecidableEq
inductive T (α : Type) where
 | e | n (v : Option α) (l r : T α)
def T.val {α : Type} (t : T α) : Option α := T.rec none (fun v _ _ _ _ => v) t
def T.left {α : Type} (t : T α) : T α := T.rec .e (fun _ l _ _ _ => l) t
def T.right {α : Type} (t : T α) : T α := T.rec .e (fun _ _ r _ _ => r) t
def T.C9 {α : Type} (p : P2) : T α -> Option α :=
 P2.rec (motive := fun _ => T α -> Option α) T.val (fun _ g t => g t.left) (fun _ g t => g t.right) p
def T.X3 {α : Type} (x : α) (p : P2) : T α -> T α :=
 P2.rec (motive := fun _ => T α -> T α) (fun t => .n (some x) t.left t.right)
  (fun _ g t => .n t.val (g t.left) t.right) (fun _ g t => .n t.val t.left (g t.right)) p
def AFY (f : Nat) : Nat -> P2 :=
 Nat.rec (motive := fun _ => Nat -> P2) (fun _ => .h)
  (fun _ g k => Nat.rec (motive := fun _ => P2) .h
   (fun m _ => Bool.rec (P2.o (g (Nat.div m 2))) (P2.z (g (Nat.div m 2))) (Nat.beq (Nat.mod m 2) 0)) k) f
def MG (k : Nat) : P2 := AFY (Nat.succ k) k
def T.get {α : Type} (t : T α) (k : Nat) : Option α := T.C9 (MG k) t
def T.set {α : Type} (t : T α) (k : Nat) (x : α) : T α := T.X3 x (MG k) t
inductive V where
 | undef
 | int (k : IntKind) (n : Int) (s : Nat)
 | bool (b : Bool)
 | str (len code : Nat)
 | KQ | ptr (id off : Nat) | gptr (b off : Nat)
 | Aa | sl (id off len cap esz : Nat) | NY (id off len esz : Nat) | rsl (b off len cap esz : Nat)
 | wR | map (id : Nat)
 | AIk | fn (f : Nat) (first caps : List V)
 | agg (cs : List V)
 | II (vs : List V)
 | AJk | iface (t : Nat) (v : V)
inductive NR where
 | arr (esz cnt : Nat) (c : T (List V))
 | map (es : List (V × V × Nat)) (clock : Nat)
 | dead
abbrev Heap := T NR
abbrev Gv := T V
abbrev AL := Nat -> Nat -> Nat -> Option (List V)
inductive X where
 | r (p : P2) | c (v : V) | s (i : Nat)
def KI (o : Option V) : V := Option.rec V.undef (fun v => v) o
def AH8 (l : List V) : Nat -> V :=
 List.rec (motive := fun _ => Nat -> V) (fun _ => .undef) (fun x _ g i => Nat.rec (motive := fun _ => V) x (fun i _ => g i) i) l
inductive RS where
 | mk (L : List V) (R : Gv)
def RS.st (E : RS) : List V := RS.rec (fun L _ => L) E
def RS.rg (E : RS) : Gv := RS.rec (fun _ R => R) E
def X.ev (x : X) : RS -> V := X.rec (motive := fun _ => RS -> V) (fun p E => KI (T.C9 p E.rg)) (fun v _ => v) (fun i E => AH8 E.st i) x
def V.F8 (v : V) : (IntKind -> Int -> Nat -> Option V) -> Option V :=
 V.rec (motive_1 := fun _ => (IntKind -> Int -> Nat -> Option V) -> Option V) (motive_2 := fun _ => PUnit)
  (fun _ => none)
  (fun a b c f => f a b c)
  (fun _ _ => none)
  (fun _ _ _ => none)
  (fun _ => none)
  (fun _ _ _ => none)
  (fun _ _ _ => none)
  (fun _ => none)
  (fun _ _ _ _ _ _ => none)
  (fun _ _ _ _ _ => none)
  (fun _ _ _ _ _ _ => none)
  (fun _ => none)
  (fun _ _ => none)
  (fun _ => none)
  (fun _ _ _ _ _ _ => none)
  (fun _ _ _ => none)
  (fun _ _ _ => none)
  (fun _ => none)
  (fun _ _ _ _ => none)
  ⟨⟩ (fun _ _ _ _ => ⟨⟩) v
def V.ZY (v : V) : (Bool -> Option V) -> Option V :=
 V.rec (motive_1 := fun _ => (Bool -> Option V) -> Option V) (motive_2 := fun _ => PUnit)
  (fun _ => none)
  (fun _ _ _ _ => none)
  (fun a f => f a)
  (fun _ _ _ => none)
  (fun _ => none)
  (fun _ _ _ => none)
  (fun _ _ _ => none)
  (fun _ => none)
  (fun _ _ _ _ _ _ => none)
  (fun _ _ _ _ _ => none)
  (fun _ _ _ _ _ _ => none)
  (fun _ => none)
  (fun _ _ => none)
  (fun _ => none)
  (fun _ _ _ _ _ _ => none)
  (fun _ _ _ => none)
  (fun _ _ _ => none)
  (fun _ => none)
  (fun _ _ _ _ => none)
  ⟨⟩ (fun _ _ _ _ => ⟨⟩) v
def V.zJ (v : V) : (Bool -> Prop) -> Prop :=
 V.rec (motive_1 := fun _ => (Bool -> Prop) -> Prop) (motive_2 := fun _ => PUnit)
  (fun _ => False)
  (fun _ _ _ _ => False)
  (fun a f => f a)
  (fun _ _ _ => False)
  (fun _ => False)
  (fun _ _ _ => False)
  (fun _ _ _ => False)
  (fun _ => False)
  (fun _ _ _ _ _ _ => False)
  (fun _ _ _ _ _ => False)
  (fun _ _ _ _ _ _ => False)
  (fun _ => False)
  (fun _ _ => False)
  (fun _ => False)
  (fun _ _ _ _ _ _ => False)
  (fun _ _ _ => False)
  (fun _ _ _ => False)
  (fun _ => False)
  (fun _ _ _ _ => False)
  ⟨⟩ (fun _ _ _ _ => ⟨⟩) v
def V.QS (v : V) : (Nat -> Nat -> Option V) -> Option V :=
 V.rec (motive_1 := fun _ => (Nat -> Nat -> Option V) -> Option V) (motive_2 := fun _ => PUnit)
  (fun _ => none)
  (fun _ _ _ _ => none)
  (fun _ _ => none)
  (fun a b f => f a b)
  (fun _ => none)
  (fun _ _ _ => none)
  (fun _ _ _ => none)
  (fun _ => none)
  (fun _ _ _ _ _ _ => none)
  (fun _ _ _ _ _ => none)
  (fun _ _ _ _ _ _ => none)
  (fun _ => none)
  (fun _ _ => none)
  (fun _ => none)
  (fun _ _ _ _ _ _ => none)
  (fun _ _ _ => none)
  (fun _ _ _ => none)
  (fun _ => none)
  (fun _ _ _ _ => none)
  ⟨⟩ (fun _ _ _ _ => ⟨⟩) v
def V.oZ (v : V) : (List V -> Option V) -> Option V :=
 V.rec (motive_1 := fun _ => (List V -> Option V) -> Option V) (motive_2 := fun _ => PUnit)
  (fun _ => none)
  (fun _ _ _ _ => none)
  (fun _ _ => none)
  (fun _ _ _ => none)
  (fun _ => none)
  (fun _ _ _ => none)
  (fun _ _ _ => none)
  (fun _ => none)
  (fun _ _ _ _ _ _ => none)
  (fun _ _ _ _ _ => none)
  (fun _ _ _ _ _ _ => none)
  (fun _ => none)
  (fun _ _ => none)
  (fun _ => none)
  (fun _ _ _ _ _ _ => none)
  (fun a _ f => f a)
  (fun _ _ _ => none)
  (fun _ => none)
  (fun _ _ _ _ => none)
  ⟨⟩ (fun _ _ _ _ => ⟨⟩) v
def V.ACD (v : V) : (List V -> Option V) -> Option V :=
 V.rec (motive_1 := fun _ => (List V -> Option V) -> Option V) (motive_2 := fun _ => PUnit)
  (fun _ => none)
  (fun _ _ _ _ => none)
  (fun _ _ => none)
  (fun _ _ _ => none)
  (fun _ => none)
  (fun _ _ _ => none)
  (fun _ _ _ => none)
  (fun _ => none)
  (fun _ _ _ _ _ _ => none)
  (fun _ _ _ _ _ => none)
  (fun _ _ _ _ _ _ => none)
  (fun _ => none)
  (fun _ _ => none)
  (fun _ => none)
  (fun _ _ _ _ _ _ => none)
  (fun _ _ _ => none)
  (fun a _ f => f a)
  (fun _ => none)
  (fun _ _ _ _ => none)
  ⟨⟩ (fun _ _ _ _ => ⟨⟩) v
def V.ABn (v : V) : (Nat -> Nat -> Option V) -> (Nat -> Nat -> Option V) -> Option V :=
 V.rec (motive_1 := fun _ => (Nat -> Nat -> Option V) -> (Nat -> Nat -> Option V) -> Option V) (motive_2 := fun _ => PUnit)
  (fun _ _ => none)
  (fun _ _ _ _ _ => none)
  (fun _ _ _ => none)
  (fun _ _ _ _ => none)
  (fun _ _ => none)
  (fun a b f _ => f a b)
  (fun a b _ g => g a b)
  (fun _ _ => none)
  (fun _ _ _ _ _ _ _ => none)
  (fun _ _ _ _ _ _ => none)
  (fun _ _ _ _ _ _ _ => none)
  (fun _ _ => none)
  (fun _ _ _ => none)
  (fun _ _ => none)
  (fun _ _ _ _ _ _ _ => none)
  (fun _ _ _ _ => none)
  (fun _ _ _ _ => none)
  (fun _ _ => none)
  (fun _ _ _ _ _ => none)
  ⟨⟩ (fun _ _ _ _ => ⟨⟩) v
def V.ADg (v : V) : (Option V) -> (Nat -> Option V) -> Option V :=
 V.rec (motive_1 := fun _ => (Option V) -> (Nat -> Option V) -> Option V) (motive_2 := fun _ => PUnit)
  (fun _ _ => none)
  (fun _ _ _ _ _ => none)
  (fun _ _ _ => none)
  (fun _ _ _ _ => none)
  (fun _ _ => none)
  (fun _ _ _ _ => none)
  (fun _ _ _ _ => none)
  (fun _ _ => none)
  (fun _ _ _ _ _ _ _ => none)
  (fun _ _ _ _ _ _ => none)
  (fun _ _ _ _ _ _ _ => none)
  (fun z _ => z)
  (fun a _ f => f a)
  (fun _ _ => none)
  (fun _ _ _ _ _ _ _ => none)
  (fun _ _ _ _ => none)
  (fun _ _ _ _ => none)
  (fun _ _ => none)
  (fun _ _ _ _ _ => none)
  ⟨⟩ (fun _ _ _ _ => ⟨⟩) v
def V.AIu (v : V) : (Option V) -> (Nat -> Nat -> Nat -> Nat -> Nat -> Option V) -> (Nat -> Nat -> Nat -> Nat -> Option V) -> (Nat -> Nat -> Nat -> Nat -> Nat -> Option V) -> Option V :=
 V.rec (motive_1 := fun _ => (Option V) -> (Nat -> Nat -> Nat -> Nat -> Nat -> Option V) -> (Nat -> Nat -> Nat -> Nat -> Option V) -> (Nat -> Nat -> Nat -> Nat -> Nat -> Option V) -> Option V) (motive_2 := fun _ => PUnit)
  (fun _ _ _ _ => none)
  (fun _ _ _ _ _ _ _ => none)
  (fun _ _ _ _ _ => none)
  (fun _ _ _ _ _ _ => none)
  (fun _ _ _ _ => none)
  (fun _ _ _ _ _ _ => none)
  (fun _ _ _ _ _ _ => none)
  (fun z _ _ _ => z)
  (fun a b c d e _ f _ _ => f a b c d e)
  (fun a b c d _ _ g _ => g a b c d)
  (fun a b c d e _ _ _ h => h a b c d e)
  (fun _ _ _ _ => none)
  (fun _ _ _ _ _ => none)
  (fun _ _ _ _ => none)
  (fun _ _ _ _ _ _ _ _ _ => none)
  (fun _ _ _ _ _ _ => none)
  (fun _ _ _ _ _ _ => none)
  (fun _ _ _ _ => none)
  (fun _ _ _ _ _ _ _ => none)
  ⟨⟩ (fun _ _ _ _ => ⟨⟩) v
def Am (v : V) : List V :=
 V.rec (motive_1 := fun _ => List V) (motive_2 := fun _ => PUnit)
  ([v])
  (fun _ _ _ => [v])
  (fun _ => [v])
  (fun _ _ => [v])
  ([v])
  (fun _ _ => [v])
  (fun _ _ => [v])
  ([v])
  (fun _ _ _ _ _ => [v])
  (fun _ _ _ _ => [v])
  (fun _ _ _ _ _ => [v])
  ([v])
  (fun _ => [v])
  ([v])
  (fun _ _ _ _ _ => [v])
  (fun a _ => a)
  (fun _ _ => [v])
  ([v])
  (fun _ _ _ => [v])
  ⟨⟩ (fun _ _ _ _ => ⟨⟩) v
def isStr (v : V) : Bool :=
 V.rec (motive_1 := fun _ => Bool) (motive_2 := fun _ => PUnit)
  (false)
  (fun _ _ _ => false)
  (fun _ => false)
  (fun _ _ => true)
  (false)
  (fun _ _ => false)
  (fun _ _ => false)
  (false)
  (fun _ _ _ _ _ => false)
  (fun _ _ _ _ => false)
  (fun _ _ _ _ _ => false)
  (false)
  (fun _ => false)
  (false)
  (fun _ _ _ _ _ => false)
  (fun _ _ => false)
  (fun _ _ => false)
  (false)
  (fun _ _ _ => false)
  ⟨⟩ (fun _ _ _ _ => ⟨⟩) v
def lenV (v : V) : Option V :=
 V.rec (motive_1 := fun _ => Option V) (motive_2 := fun _ => PUnit)
  (none)
  (fun _ _ _ => none)
  (fun _ => none)
  (fun _ _ => none)
  (none)
  (fun _ _ => none)
  (fun _ _ => none)
  (some (.int .i64 (.ofNat 0) 0))
  (fun _ _ c _ _ => some (.int .i64 (.ofNat c) 0))
  (fun _ _ c _ => some (.int .i64 (.ofNat c) 0))
  (fun _ _ c _ _ => some (.int .i64 (.ofNat c) 0))
  (none)
  (fun _ => none)
  (none)
  (fun _ _ _ _ _ => none)
  (fun _ _ => none)
  (fun _ _ => none)
  (none)
  (fun _ _ _ => none)
  ⟨⟩ (fun _ _ _ _ => ⟨⟩) v
def Az (v : V) : Option V :=
 V.rec (motive_1 := fun _ => Option V) (motive_2 := fun _ => PUnit)
  (none)
  (fun _ _ _ => none)
  (fun _ => none)
  (fun _ _ => none)
  (none)
  (fun a b => some (.ptr a b))
  (fun a b => some (.gptr a b))
  (none)
  (fun _ _ _ _ _ => none)
  (fun _ _ _ _ => none)
  (fun _ _ _ _ _ => none)
  (none)
  (fun _ => none)
  (none)
  (fun a b c _ _ => some (.fn a b c))
  (fun _ _ => none)
  (fun _ _ => none)
  (none)
  (fun _ _ _ => none)
  ⟨⟩ (fun _ _ _ _ => ⟨⟩) v
def Oa (n : Int) : (Int -> Option V) -> Option V := fun f => f n
def ES (n : Nat) : (Nat -> Option V) -> Option V :=
 Nat.rec (motive := fun _ => (Nat -> Option V) -> Option V) (fun f => f 0) (fun k _ f => f (Nat.succ k)) n
def CV (n : Nat) : (Nat -> Prop) -> Prop :=
 Nat.rec (motive := fun _ => (Nat -> Prop) -> Prop) (fun f => f 0) (fun k _ f => f (Nat.succ k)) n
def AOm (k : IntKind) : Nat -> Bool :=
 IntKind.rec (motive := fun _ => Nat -> Bool) (fun m => Nat.blt m 128) (fun m => Nat.blt m 32768) (fun m => Nat.blt m 2147483648) (fun m => Nat.blt m 9223372036854775808)
  (fun m => Nat.blt m 256) (fun m => Nat.blt m 65536) (fun m => Nat.blt m 4294967296) (fun m => Nat.blt m 18446744073709551616) k
def AOg (k : IntKind) : Nat -> Bool :=
 IntKind.rec (motive := fun _ => Nat -> Bool) (fun m => Nat.blt m 128) (fun m => Nat.blt m 32768) (fun m => Nat.blt m 2147483648) (fun m => Nat.blt m 9223372036854775808)
  (fun _ => false) (fun _ => false) (fun _ => false) (fun _ => false) k
def inr (k : IntKind) (n : Int) : Bool := Int.rec (motive := fun _ => IntKind -> Bool) (fun m k => AOm k m) (fun m k => AOg k m) n k
def Xo (k : IntKind) (n : Int) : Int := Bool.rec (k.wrap n) n (inr k n)
def ANT (k : IntKind) (n : Int) : Option V := Oa (Xo k n) fun m => some (.int k m 0)
def mkI (k : IntKind) (n : Int) (s : Nat) : Option V :=
 Nat.rec (motive := fun _ => IntKind -> Int -> Option V) ANT (fun _ _ k n => some (.int k (k.wrap n) 1)) s k n
def mkN (k : IntKind) (n : Int) (s : Nat) : Option V :=
 Nat.rec (motive := fun _ => IntKind -> Int -> Option V) (fun k n => Oa n fun m => some (.int k m 0)) (fun _ _ k n => some (.int k n 1)) s k n
def AKl (a : Nat) (b : Int) : Int := Int.rec (motive := fun _ => Nat -> Int) (fun n m => .ofNat (Nat.add m n)) (fun n m => Int.subNatNat m (Nat.succ n)) b a
def AKv (a : Nat) (b : Int) : Int := Int.rec (motive := fun _ => Nat -> Int) (fun n m => Int.subNatNat n (Nat.succ m)) (fun n m => .negSucc (Nat.succ (Nat.add m n))) b a
def uO (a b : Int) : Int := Int.rec (motive := fun _ => Int -> Int) AKl AKv a b
def ile (a b : Int) : Bool := Int.rec (motive := fun _ => Int -> Bool) (fun m b => Int.rec (motive := fun _ => Nat -> Bool) (fun n m => Nat.ble m n) (fun _ _ => false) b m)
 (fun m b => Int.rec (motive := fun _ => Nat -> Bool) (fun _ _ => true) (fun n m => Nat.ble n m) b m) a b
def zZ (a b : Int) : Bool := Int.rec (motive := fun _ => Int -> Bool) (fun m b => Int.rec (motive := fun _ => Nat -> Bool) (fun n m => Nat.blt m n) (fun _ _ => false) b m)
 (fun m b => Int.rec (motive := fun _ => Nat -> Bool) (fun _ _ => true) (fun n m => Nat.blt n m) b m) a b
def ieq (a b : Int) : Bool := Int.rec (motive := fun _ => Int -> Bool) (fun m b => Int.rec (motive := fun _ => Nat -> Bool) (fun n m => Nat.beq m n) (fun _ _ => false) b m)
 (fun m b => Int.rec (motive := fun _ => Nat -> Bool) (fun _ _ => false) (fun n m => Nat.beq n m) b m) a b
def kno (a : IntKind) : Nat := IntKind.rec 0 1 2 3 4 5 6 7 a
def keq (a b : IntKind) : Bool := Nat.beq (kno a) (kno b)
def Vd (b : Bool) : Bool := Bool.rec true false b
def band (a b : Bool) : Bool := Bool.rec (motive := fun _ => Bool -> Bool) (fun _ => false) (fun b => b) a b
def AH4 (a b : Bool) : Bool := Bool.rec (motive := fun _ => Bool -> Bool) Vd (fun b => b) a b
def wQ (b : Bool) : Option V := Bool.rec (some (.bool false)) (some (.bool true)) b
def BD (b : Bool) : Option V -> Option V := Bool.rec (motive := fun _ => Option V -> Option V) (fun _ => none) (fun o => o) b
def nI (b : Bool) (x y : Option V) : Option V := Bool.rec (motive := fun _ => Option V -> Option V -> Option V) (fun _ y => y) (fun x _ => x) b x y
def AGN (code i : Nat) : Nat := Nat.mod (Nat.div code (Nat.pow 256 i)) 256
def AOB (code l h : Nat) : Nat := Nat.mod (Nat.div code (Nat.pow 256 l)) (Nat.pow 256 (Nat.sub h l))
def APT (l1 c1 c2 : Nat) : Nat := Nat.add c1 (Nat.mul (Nat.pow 256 l1) c2)
def AM3 (f : Nat) : Nat -> Nat -> Nat -> Nat -> Bool :=
 Nat.rec (motive := fun _ => Nat -> Nat -> Nat -> Nat -> Bool) (fun _ _ _ _ => false)
  (fun _ g l1 c1 l2 c2 => Nat.rec (motive := fun _ => Bool) false (fun l2' _ => Nat.rec (motive := fun _ => Bool) true (fun l1' _ =>
   Bool.rec (Nat.blt (Nat.mod c1 256) (Nat.mod c2 256)) (g l1' (Nat.div c1 256) l2' (Nat.div c2 256)) (Nat.beq (Nat.mod c1 256) (Nat.mod c2 256))) l1) l2) f
def slt (l1 c1 l2 c2 : Nat) : Bool := AM3 (Nat.succ l2) l1 c1 l2 c2
def nth {α : Type} (l : List α) : Nat -> Option α :=
 List.rec (motive := fun _ => Nat -> Option α) (fun _ => none) (fun x _ g i => Nat.rec (motive := fun _ => Option α) (some x) (fun i _ => g i) i) l
def Yf {α : Type} (x : α) (l : List α) : Nat -> List α :=
 List.rec (motive := fun _ => Nat -> List α) (fun _ => []) (fun y ys g i => Nat.rec (motive := fun _ => List α) (x :: ys) (fun i _ => y :: g i) i) l
def len {α : Type} (l : List α) : Nat := List.rec (motive := fun _ => Nat) 0 (fun _ _ n => Nat.succ n) l
def cat {α : Type} (a b : List α) : List α := List.rec (motive := fun _ => List α -> List α) (fun b => b) (fun x _ g b => x :: g b) a b
def Uf {α : Type} (n : Nat) : List α -> List α :=
 Nat.rec (motive := fun _ => List α -> List α) (fun _ => []) (fun _ g l => List.rec (motive := fun _ => List α) [] (fun x xs _ => x :: g xs) l) n
def aS {α : Type} (n : Nat) : List α -> List α :=
 Nat.rec (motive := fun _ => List α -> List α) (fun l => l) (fun _ g l => List.rec (motive := fun _ => List α) [] (fun _ xs _ => g xs) l) n
def Xu (l : List X) : RS -> List V := List.rec (motive := fun _ => RS -> List V) (fun _ => []) (fun x _ g R => x.ev R :: g R) l
def AC4 (new : List V) (i : Nat) (l : List V) : List V := cat (Uf i l) (cat new (aS (Nat.add i (len new)) l))
abbrev LV := List V
def QG (o : Option LV) (f : LV -> Option V) : Option V := Option.rec (motive := fun _ => (LV -> Option V) -> Option V) (fun _ => none) (fun v f => f v) o f
def Gp {α : Type} (o : Option α) (f : α -> Prop) : Prop := Option.rec (motive := fun _ => (α -> Prop) -> Prop) (fun _ => False) (fun v f => f v) o f
def AP (o : Option V) (f : V -> Prop) : Prop := Option.rec (motive := fun _ => (V -> Prop) -> Prop) (fun _ => False) (fun v f => f v) o f
def A8 {α β : Type} (o : Option α) (f : α -> Option β) : Option β := Option.rec (motive := fun _ => (α -> Option β) -> Option β) (fun _ => none) (fun v f => f v) o f
def ldC (esz off n : Nat) (L : LV) : Option LV :=
  Bool.rec (motive := fun _ => Option LV)
      (Bool.rec none (some (Uf n (aS (Nat.mod off esz) L))) (Nat.ble (Nat.add (Nat.mod off esz) n) esz))
      (some L) (band (Nat.beq n esz) (Nat.beq (Nat.mod off esz) 0))
def ldB (esz cnt : Nat) (c : T LV) (off n : Nat) : Option LV :=
 A8 (Bool.rec none (T.get c (Nat.div off esz)) (Nat.blt (Nat.div off esz) cnt)) (ldC esz off n)
def NR.ld (b : NR) : Nat -> Nat -> Option LV :=
 NR.rec (motive := fun _ => Nat -> Nat -> Option LV) ldB (fun _ _ _ _ => none) (fun _ _ => none) b
def YF (H : Heap) (id off n : Nat) : Option LV := Option.rec (motive := fun _ => Nat -> Nat -> Option LV) (fun _ _ => none) NR.ld (T.get H id) off n
def fF (v : V) : (AL) -> (Heap) -> (Nat) -> Option LV :=
 V.rec (motive_1 := fun _ => (AL) -> (Heap) -> (Nat) -> Option LV) (motive_2 := fun _ => PUnit)
  (fun _ _ _ => none)
  (fun _ _ _ _ _ _ => none)
  (fun _ _ _ _ => none)
  (fun _ _ _ _ _ => none)
  (fun _ _ _ => none)
  (fun a b _ H n => YF H a b n)
  (fun a b G _ n => G a b n)
  (fun _ _ _ => none)
  (fun _ _ _ _ _ _ _ _ => none)
  (fun _ _ _ _ _ _ _ => none)
  (fun _ _ _ _ _ _ _ _ => none)
  (fun _ _ _ => none)
  (fun _ _ _ _ => none)
  (fun _ _ _ => none)
  (fun _ _ _ _ _ _ _ _ => none)
  (fun _ _ _ _ _ => none)
  (fun _ _ _ _ _ => none)
  (fun _ _ _ => none)
  (fun _ _ _ _ _ _ => none)
  ⟨⟩ (fun _ _ _ _ => ⟨⟩) v
def stC (new : LV) (esz cnt : Nat) (c : T LV) (off n : Nat) (L : LV) : Option NR :=
  Bool.rec (motive := fun _ => Option NR)
      (Bool.rec none (some (.arr esz cnt (T.set c (Nat.div off esz) (AC4 new (Nat.mod off esz) L)))) (Nat.ble (Nat.add (Nat.mod off esz) n) esz))
      (some (.arr esz cnt (T.set c (Nat.div off esz) new))) (band (Nat.beq n esz) (Nat.beq (Nat.mod off esz) 0))
def stB (esz cnt : Nat) (c : T LV) (off n : Nat) (new : LV) : Option NR :=
 A8 (Bool.rec none (T.get c (Nat.div off esz)) (Nat.blt (Nat.div off esz) cnt)) (stC new esz cnt c off n)
def NR.st (b : NR) : Nat -> Nat -> LV -> Option NR :=
 NR.rec (motive := fun _ => Nat -> Nat -> LV -> Option NR) stB (fun _ _ _ _ _ => none) (fun _ _ _ => none) b
def stH (H : Heap) (id off n : Nat) (new : LV) : Option Heap :=
 A8 (Option.rec (motive := fun _ => Nat -> Nat -> LV -> Option NR) (fun _ _ _ => none) NR.st (T.get H id) off n new) fun b => some (T.set H id b)
def stP (v : V) : (Heap) -> (Nat) -> (LV) -> Option Heap :=
 V.rec (motive_1 := fun _ => (Heap) -> (Nat) -> (LV) -> Option Heap) (motive_2 := fun _ => PUnit)
  (fun _ _ _ => none)
  (fun _ _ _ _ _ _ => none)
  (fun _ _ _ _ => none)
  (fun _ _ _ _ _ => none)
  (fun _ _ _ => none)
  (fun a b H n new => stH H a b n new)
  (fun _ _ _ _ _ => none)
  (fun _ _ _ => none)
  (fun _ _ _ _ _ _ _ _ => none)
  (fun _ _ _ _ _ _ _ => none)
  (fun _ _ _ _ _ _ _ _ => none)
  (fun _ _ _ => none)
  (fun _ _ _ _ => none)
  (fun _ _ _ => none)
  (fun _ _ _ _ _ _ _ _ => none)
  (fun _ _ _ _ _ => none)
  (fun _ _ _ _ _ => none)
  (fun _ _ _ => none)
  (fun _ _ _ _ _ _ => none)
  ⟨⟩ (fun _ _ _ _ => ⟨⟩) v
def AGd (v : V) : (IntKind) -> (Int) -> (Nat) -> Option Bool :=
 V.rec (motive_1 := fun _ => (IntKind) -> (Int) -> (Nat) -> Option Bool) (motive_2 := fun _ => PUnit)
  (fun _ _ _ => none)
  (fun a b c k n s => Bool.rec (motive := fun _ => Option Bool) none (some (ieq n b)) (band (keq k a) (Nat.beq (Nat.add s c) 0)))
  (fun _ _ _ _ => none)
  (fun _ _ _ _ _ => none)
  (fun _ _ _ => none)
  (fun _ _ _ _ _ => none)
  (fun _ _ _ _ _ => none)
  (fun _ _ _ => none)
  (fun _ _ _ _ _ _ _ _ => none)
  (fun _ _ _ _ _ _ _ => none)
  (fun _ _ _ _ _ _ _ _ => none)
  (fun _ _ _ => none)
  (fun _ _ _ _ => none)
  (fun _ _ _ => none)
  (fun _ _ _ _ _ _ _ _ => none)
  (fun _ _ _ _ _ => none)
  (fun _ _ _ _ _ => none)
  (fun _ _ _ => none)
  (fun _ _ _ _ _ _ => none)
  ⟨⟩ (fun _ _ _ _ => ⟨⟩) v
def ADl (v : V) : (Bool) -> Option Bool :=
 V.rec (motive_1 := fun _ => (Bool) -> Option Bool) (motive_2 := fun _ => PUnit)
  (fun _ => none)
  (fun _ _ _ _ => none)
  (fun a x => some (AH4 x a))
  (fun _ _ _ => none)
  (fun _ => none)
  (fun _ _ _ => none)
  (fun _ _ _ => none)
  (fun _ => none)
  (fun _ _ _ _ _ _ => none)
  (fun _ _ _ _ _ => none)
  (fun _ _ _ _ _ _ => none)
  (fun _ => none)
  (fun _ _ => none)
  (fun _ => none)
  (fun _ _ _ _ _ _ => none)
  (fun _ _ _ => none)
  (fun _ _ _ => none)
  (fun _ => none)
  (fun _ _ _ _ => none)
  ⟨⟩ (fun _ _ _ _ => ⟨⟩) v
def eqStr (v : V) : (Nat) -> (Nat) -> Option Bool :=
 V.rec (motive_1 := fun _ => (Nat) -> (Nat) -> Option Bool) (motive_2 := fun _ => PUnit)
  (fun _ _ => none)
  (fun _ _ _ _ _ => none)
  (fun _ _ _ => none)
  (fun a b l d => some (band (Nat.beq l a) (Nat.beq d b)))
  (fun _ _ => none)
  (fun _ _ _ _ => none)
  (fun _ _ _ _ => none)
  (fun _ _ => none)
  (fun _ _ _ _ _ _ _ => none)
  (fun _ _ _ _ _ _ => none)
  (fun _ _ _ _ _ _ _ => none)
  (fun _ _ => none)
  (fun _ _ _ => none)
  (fun _ _ => none)
  (fun _ _ _ _ _ _ _ => none)
  (fun _ _ _ _ => none)
  (fun _ _ _ _ => none)
  (fun _ _ => none)
  (fun _ _ _ _ _ => none)
  ⟨⟩ (fun _ _ _ _ => ⟨⟩) v
def AHH (v : V) : Option Bool :=
 V.rec (motive_1 := fun _ => Option Bool) (motive_2 := fun _ => PUnit)
  (none)
  (fun _ _ _ => none)
  (fun _ => none)
  (fun _ _ => none)
  (some true)
  (fun _ _ => some false)
  (fun _ _ => some false)
  (none)
  (fun _ _ _ _ _ => none)
  (fun _ _ _ _ => none)
  (fun _ _ _ _ _ => none)
  (none)
  (fun _ => none)
  (none)
  (fun _ _ _ _ _ => none)
  (fun _ _ => none)
  (fun _ _ => none)
  (none)
  (fun _ _ _ => none)
  ⟨⟩ (fun _ _ _ _ => ⟨⟩) v
def AKt (v : V) : (Nat) -> (Nat) -> Option Bool :=
 V.rec (motive_1 := fun _ => (Nat) -> (Nat) -> Option Bool) (motive_2 := fun _ => PUnit)
  (fun _ _ => none)
  (fun _ _ _ _ _ => none)
  (fun _ _ _ => none)
  (fun _ _ _ _ => none)
  (fun _ _ => some false)
  (fun a b i o => Bool.rec none (some (Nat.beq o b)) (Nat.beq i a))
  (fun _ _ _ _ => none)
  (fun _ _ => none)
  (fun _ _ _ _ _ _ _ => none)
  (fun _ _ _ _ _ _ => none)
  (fun _ _ _ _ _ _ _ => none)
  (fun _ _ => none)
  (fun _ _ _ => none)
  (fun _ _ => none)
  (fun _ _ _ _ _ _ _ => none)
  (fun _ _ _ _ => none)
  (fun _ _ _ _ => none)
  (fun _ _ => none)
  (fun _ _ _ _ _ => none)
  ⟨⟩ (fun _ _ _ _ => ⟨⟩) v
def AHa (v : V) : Option Bool :=
 V.rec (motive_1 := fun _ => Option Bool) (motive_2 := fun _ => PUnit)
  (none)
  (fun _ _ _ => none)
  (fun _ => none)
  (fun _ _ => none)
  (some false)
  (fun _ _ => none)
  (fun _ _ => none)
  (none)
  (fun _ _ _ _ _ => none)
  (fun _ _ _ _ => none)
  (fun _ _ _ _ _ => none)
  (none)
  (fun _ => none)
  (none)
  (fun _ _ _ _ _ => none)
  (fun _ _ => none)
  (fun _ _ => none)
  (none)
  (fun _ _ _ => none)
  ⟨⟩ (fun _ _ _ _ => ⟨⟩) v
def ACu (v : V) : (V) -> Option Bool :=
 V.rec (motive_1 := fun _ => (V) -> Option Bool) (motive_2 := fun _ => PUnit)
  (fun _ => none)
  (fun a b c y => AGd y a b c)
  (fun _ _ => none)
  (fun _ _ _ => none)
  (fun _ => none)
  (fun _ _ _ => none)
  (fun _ _ _ => none)
  (fun _ => none)
  (fun _ _ _ _ _ _ => none)
  (fun _ _ _ _ _ => none)
  (fun _ _ _ _ _ _ => none)
  (fun _ => none)
  (fun _ _ => none)
  (fun _ => none)
  (fun _ _ _ _ _ _ => none)
  (fun _ _ _ => none)
  (fun _ _ _ => none)
  (fun _ => none)
  (fun _ _ _ _ => none)
  ⟨⟩ (fun _ _ _ _ => ⟨⟩) v
def ADT (v : V) : (V) -> Option Bool :=
 V.rec (motive_1 := fun _ => (V) -> Option Bool) (motive_2 := fun _ => PUnit)
  (fun _ => none)
  (fun _ _ _ _ => none)
  (fun _ _ => none)
  (fun a b y => eqStr y a b)
  (fun _ => none)
  (fun _ _ _ => none)
  (fun _ _ _ => none)
  (fun _ => none)
  (fun _ _ _ _ _ _ => none)
  (fun _ _ _ _ _ => none)
  (fun _ _ _ _ _ _ => none)
  (fun _ => none)
  (fun _ _ => none)
  (fun _ => none)
  (fun _ _ _ _ _ _ => none)
  (fun _ _ _ => none)
  (fun _ _ _ => none)
  (fun _ => none)
  (fun _ _ _ _ => none)
  ⟨⟩ (fun _ _ _ _ => ⟨⟩) v
def uh (v : V) : (V) -> Option Bool :=
 V.rec (motive_1 := fun _ => (V) -> Option Bool) (motive_2 := fun _ => PUnit)
  (fun _ => none)
  (fun _ _ _ _ => none)
  (fun a y => ADl y a)
  (fun _ _ _ => none)
  (fun _ => none)
  (fun _ _ _ => none)
  (fun _ _ _ => none)
  (fun _ => none)
  (fun _ _ _ _ _ _ => none)
  (fun _ _ _ _ _ => none)
  (fun _ _ _ _ _ _ => none)
  (fun _ => none)
  (fun _ _ => none)
  (fun _ => none)
  (fun _ _ _ _ _ _ => none)
  (fun _ _ _ => none)
  (fun _ _ _ => none)
  (fun _ => none)
  (fun _ _ _ _ => none)
  ⟨⟩ (fun _ _ _ _ => ⟨⟩) v
def AIA (v : V) : (V) -> Option Bool :=
 V.rec (motive_1 := fun _ => (V) -> Option Bool) (motive_2 := fun _ => PUnit)
  (fun _ => none)
  (fun _ _ _ _ => none)
  (fun _ _ => none)
  (fun _ _ _ => none)
  (fun y => AHH y)
  (fun a b y => AKt y a b)
  (fun _ _ y => AHa y)
  (fun _ => none)
  (fun _ _ _ _ _ _ => none)
  (fun _ _ _ _ _ => none)
  (fun _ _ _ _ _ _ => none)
  (fun _ => none)
  (fun _ _ => none)
  (fun _ => none)
  (fun _ _ _ _ _ _ => none)
  (fun _ _ _ => none)
  (fun _ _ _ => none)
  (fun _ => none)
  (fun _ _ _ _ => none)
  ⟨⟩ (fun _ _ _ _ => ⟨⟩) v
def AHz (v : V) : Option Bool :=
 V.rec (motive_1 := fun _ => Option Bool) (motive_2 := fun _ => PUnit)
  (none)
  (fun _ _ _ => none)
  (fun _ => none)
  (fun _ _ => none)
  (none)
  (fun _ _ => none)
  (fun _ _ => none)
  (some true)
  (fun _ _ _ _ _ => some false)
  (fun _ _ _ _ => some false)
  (fun _ _ _ _ _ => some false)
  (none)
  (fun _ => none)
  (none)
  (fun _ _ _ _ _ => none)
  (fun _ _ => none)
  (fun _ _ => none)
  (none)
  (fun _ _ _ => none)
  ⟨⟩ (fun _ _ _ _ => ⟨⟩) v
def YW (v : V) : Option Bool :=
 V.rec (motive_1 := fun _ => Option Bool) (motive_2 := fun _ => PUnit)
  (none)
  (fun _ _ _ => none)
  (fun _ => none)
  (fun _ _ => none)
  (none)
  (fun _ _ => none)
  (fun _ _ => none)
  (some false)
  (fun _ _ _ _ _ => none)
  (fun _ _ _ _ => none)
  (fun _ _ _ _ _ => none)
  (none)
  (fun _ => none)
  (none)
  (fun _ _ _ _ _ => none)
  (fun _ _ => none)
  (fun _ _ => none)
  (none)
  (fun _ _ _ => none)
  ⟨⟩ (fun _ _ _ _ => ⟨⟩) v
def AH7 (v : V) : Option Bool :=
 V.rec (motive_1 := fun _ => Option Bool) (motive_2 := fun _ => PUnit)
  (none)
  (fun _ _ _ => none)
  (fun _ => none)
  (fun _ _ => none)
  (none)
  (fun _ _ => none)
  (fun _ _ => none)
  (none)
  (fun _ _ _ _ _ => none)
  (fun _ _ _ _ => none)
  (fun _ _ _ _ _ => none)
  (none)
  (fun _ => none)
  (some true)
  (fun _ _ _ _ _ => some false)
  (fun _ _ => none)
  (fun _ _ => none)
  (none)
  (fun _ _ _ => none)
  ⟨⟩ (fun _ _ _ _ => ⟨⟩) v
def AEJ (v : V) : Option Bool :=
 V.rec (motive_1 := fun _ => Option Bool) (motive_2 := fun _ => PUnit)
  (none)
  (fun _ _ _ => none)
  (fun _ => none)
  (fun _ _ => none)
  (none)
  (fun _ _ => none)
  (fun _ _ => none)
  (none)
  (fun _ _ _ _ _ => none)
  (fun _ _ _ _ => none)
  (fun _ _ _ _ _ => none)
  (none)
  (fun _ => none)
  (some false)
  (fun _ _ _ _ _ => none)
  (fun _ _ => none)
  (fun _ _ => none)
  (none)
  (fun _ _ _ => none)
  ⟨⟩ (fun _ _ _ _ => ⟨⟩) v
def AG9 (v : V) : Option Bool :=
 V.rec (motive_1 := fun _ => Option Bool) (motive_2 := fun _ => PUnit)
  (none)
  (fun _ _ _ => none)
  (fun _ => none)
  (fun _ _ => none)
  (none)
  (fun _ _ => none)
  (fun _ _ => none)
  (none)
  (fun _ _ _ _ _ => none)
  (fun _ _ _ _ => none)
  (fun _ _ _ _ _ => none)
  (some true)
  (fun _ => some false)
  (none)
  (fun _ _ _ _ _ => none)
  (fun _ _ => none)
  (fun _ _ => none)
  (none)
  (fun _ _ _ => none)
  ⟨⟩ (fun _ _ _ _ => ⟨⟩) v
def AE1 (v : V) : Option Bool :=
 V.rec (motive_1 := fun _ => Option Bool) (motive_2 := fun _ => PUnit)
  (none)
  (fun _ _ _ => none)
  (fun _ => none)
  (fun _ _ => none)
  (none)
  (fun _ _ => none)
  (fun _ _ => none)
  (none)
  (fun _ _ _ _ _ => none)
  (fun _ _ _ _ => none)
  (fun _ _ _ _ _ => none)
  (some false)
  (fun _ => none)
  (none)
  (fun _ _ _ _ _ => none)
  (fun _ _ => none)
  (fun _ _ => none)
  (none)
  (fun _ _ _ => none)
  ⟨⟩ (fun _ _ _ _ => ⟨⟩) v
def kSl (v : V) : (V) -> Option Bool :=
 V.rec (motive_1 := fun _ => (V) -> Option Bool) (motive_2 := fun _ => PUnit)
  (fun _ => none)
  (fun _ _ _ _ => none)
  (fun _ _ => none)
  (fun _ _ _ => none)
  (fun _ => none)
  (fun _ _ _ => none)
  (fun _ _ _ => none)
  (fun y => AHz y)
  (fun _ _ _ _ _ y => YW y)
  (fun _ _ _ _ y => YW y)
  (fun _ _ _ _ _ y => YW y)
  (fun _ => none)
  (fun _ _ => none)
  (fun _ => none)
  (fun _ _ _ _ _ _ => none)
  (fun _ _ _ => none)
  (fun _ _ _ => none)
  (fun _ => none)
  (fun _ _ _ _ => none)
  ⟨⟩ (fun _ _ _ _ => ⟨⟩) v
def kFn (v : V) : (V) -> Option Bool :=
 V.rec (motive_1 := fun _ => (V) -> Option Bool) (motive_2 := fun _ => PUnit)
  (fun _ => none)
  (fun _ _ _ _ => none)
  (fun _ _ => none)
  (fun _ _ _ => none)
  (fun _ => none)
  (fun _ _ _ => none)
  (fun _ _ _ => none)
  (fun _ => none)
  (fun _ _ _ _ _ _ => none)
  (fun _ _ _ _ _ => none)
  (fun _ _ _ _ _ _ => none)
  (fun _ => none)
  (fun _ _ => none)
  (fun y => AH7 y)
  (fun _ _ _ _ _ y => AEJ y)
  (fun _ _ _ => none)
  (fun _ _ _ => none)
  (fun _ => none)
  (fun _ _ _ _ => none)
  ⟨⟩ (fun _ _ _ _ => ⟨⟩) v
def AMe (v : V) : (V) -> Option Bool :=
 V.rec (motive_1 := fun _ => (V) -> Option Bool) (motive_2 := fun _ => PUnit)
  (fun _ => none)
  (fun _ _ _ _ => none)
  (fun _ _ => none)
  (fun _ _ _ => none)
  (fun _ => none)
  (fun _ _ _ => none)
  (fun _ _ _ => none)
  (fun _ => none)
  (fun _ _ _ _ _ _ => none)
  (fun _ _ _ _ _ => none)
  (fun _ _ _ _ _ _ => none)
  (fun y => AG9 y)
  (fun _ y => AE1 y)
  (fun _ => none)
  (fun _ _ _ _ _ _ => none)
  (fun _ _ _ => none)
  (fun _ _ _ => none)
  (fun _ => none)
  (fun _ _ _ _ => none)
  ⟨⟩ (fun _ _ _ _ => ⟨⟩) v
def Rx (o : Option Bool) (f : Bool -> Option Bool) : Option Bool := Option.rec (motive := fun _ => (Bool -> Option Bool) -> Option Bool) (fun _ => none) (fun v f => f v) o f
inductive CK where
 | int | str | bool | ptr
def CK.eq (k : CK) : V -> V -> Option Bool := CK.rec (motive := fun _ => V -> V -> Option Bool) ACu ADT uh AIA k
def uP (ks : List CK) : List V -> List V -> Option Bool :=
 List.rec (motive := fun _ => List V -> List V -> Option Bool) (fun a b => List.rec (motive := fun _ => Option Bool) (List.rec (motive := fun _ => Option Bool) (some true) (fun _ _ _ => none) b) (fun _ _ _ => none) a)
  (fun k _ g a b => List.rec (motive := fun _ => Option Bool) none (fun x xs _ => List.rec (motive := fun _ => Option Bool) none (fun y ys _ => Rx (k.eq x y) fun r => Rx (g xs ys) fun r' => some (band r r')) b) a) ks
def ALD (v : V) : (List CK) -> (LV) -> Option Bool :=
 V.rec (motive_1 := fun _ => (List CK) -> (LV) -> Option Bool) (motive_2 := fun _ => PUnit)
  (fun _ _ => none)
  (fun _ _ _ _ _ => none)
  (fun _ _ _ => none)
  (fun _ _ _ _ => none)
  (fun _ _ => none)
  (fun _ _ _ _ => none)
  (fun _ _ _ _ => none)
  (fun _ _ => none)
  (fun _ _ _ _ _ _ _ => none)
  (fun _ _ _ _ _ _ => none)
  (fun _ _ _ _ _ _ _ => none)
  (fun _ _ => none)
  (fun _ _ _ => none)
  (fun _ _ => none)
  (fun _ _ _ _ _ _ _ => none)
  (fun a _ ks l => uP ks l a)
  (fun _ _ _ _ => none)
  (fun _ _ => none)
  (fun _ _ _ _ _ => none)
  ⟨⟩ (fun _ _ _ _ => ⟨⟩) v
def AMS (v : V) : (List CK) -> (V) -> Option Bool :=
 V.rec (motive_1 := fun _ => (List CK) -> (V) -> Option Bool) (motive_2 := fun _ => PUnit)
  (fun _ _ => none)
  (fun _ _ _ _ _ => none)
  (fun _ _ _ => none)
  (fun _ _ _ _ => none)
  (fun _ _ => none)
  (fun _ _ _ _ => none)
  (fun _ _ _ _ => none)
  (fun _ _ => none)
  (fun _ _ _ _ _ _ _ => none)
  (fun _ _ _ _ _ _ => none)
  (fun _ _ _ _ _ _ _ => none)
  (fun _ _ => none)
  (fun _ _ _ => none)
  (fun _ _ => none)
  (fun _ _ _ _ _ _ _ => none)
  (fun a _ ks y => ALD y ks a)
  (fun _ _ _ _ => none)
  (fun _ _ => none)
  (fun _ _ _ _ _ => none)
  ⟨⟩ (fun _ _ _ _ => ⟨⟩) v
inductive EK where
 | one (k : CK) | agg (ks : List CK) | sl | fn | map
def EK.eq (k : EK) : V -> V -> Option Bool := EK.rec (motive := fun _ => V -> V -> Option Bool) (fun k => k.eq) (fun ks x y => AMS x ks y) kSl kFn AMe k
inductive B2 where
 | add | sub | mul | quo | rem | and | or | xor | andNot | shl | shr | lss | leq | gtr | geq
def AFh (f : Int -> Int -> Bool) (x y : V) : Option V := x.F8 fun k a s => y.F8 fun k' b t => BD (band (keq k k') (Nat.beq (Nat.add s t) 0)) (wQ (f a b))
def ABH (f : Nat -> Nat -> Nat -> Nat -> Bool) (x y : V) : Option V := x.QS fun l c => y.QS fun m d => wQ (f l c m d)
def ari (f : Int -> Int -> Int) (x y : V) : Option V := x.F8 fun k a s => y.F8 fun k' b t => BD (keq k k') (mkI k (f a b) (Nat.add s t))
def dvs (f : Int -> Int -> Int) (x y : V) : Option V :=
 x.F8 fun k a s => y.F8 fun k' b t => BD (band (keq k k') (band (Nat.beq t 0) (Vd (ieq b 0)))) (mkI k (f a b) s)
def AMp (x y : V) : Option V :=
 x.F8 fun k a s => y.F8 fun k' b t => BD (band (keq k k') (band (Nat.beq t 0) (Vd (ieq b 0)))) (mkN k (Int.tmod a b) s)
def AOh (x y : V) : Option V := x.QS fun l c => y.QS fun m d => BD (Nat.blt (Nat.add l m) 9223372036854775808) (ES (Nat.add l m) fun n => ES (APT l c d) fun e => some (.str n e))
def AMV (x y : V) : Option V := nI (isStr x) (AOh x y) (ari uO x y)
def AOq (x y : V) : Option V := ari (fun a b => uO a (Int.neg b)) x y
def AOe (x y : V) : Option V := ari Int.mul x y
def AHV (k : IntKind) (a b : Int) : Int := Int.rec (motive := fun _ => Int -> IntKind -> Int)
 (fun m b k => Int.rec (motive := fun _ => Nat -> IntKind -> Int) (fun n m k => Xo k (.ofNat (Nat.land m n))) (fun n m k => bits .and k (.ofNat m) (.negSucc n)) b m k)
 (fun m b k => bits .and k (.negSucc m) b) a b k
def AL0 (x y : V) : Option V := x.F8 fun k a s => y.F8 fun k' b t => BD (band (keq k k') (Nat.beq (Nat.add s t) 0)) (Oa (AHV k a b) fun m => some (.int k m 0))
def AHs (o : BinOp) (x y : V) : Option V := x.F8 fun k a s => y.F8 fun k' b t => BD (band (keq k k') (Nat.beq (Nat.add s t) 0)) (Oa (bits o k a b) fun m => some (.int k m 0))
def AN5 (a : Int) (n : Nat) : Int := Int.fdiv a (Int.ofNat (Nat.pow 2 n))
def AB3 (k : IntKind) : Nat := IntKind.rec 8 16 32 64 8 16 32 64 k
def AM8 (x y : V) : Option V := x.F8 fun k a s => y.F8 fun _ b t => BD (band (Vd (zZ b 0)) (Nat.beq (Nat.add s t) 0)) (Oa (AN5 a (Nat.min (Int.toNat b) (AB3 k))) fun m => some (.int k m 0))
def ANJ (x y : V) : Option V := x.F8 fun k a s => y.F8 fun _ b t => BD (band (Vd (zZ b 0)) (Nat.beq (Nat.add s t) 0)) (mkI k (Int.mul a (Int.ofNat (Nat.pow 2 (Nat.min (Int.toNat b) (AB3 k))))) 0)
def ofB (o : Option Bool) : Option V := Option.rec none wQ o
def Dx (k : EK) (neg : Bool) (x y : V) : Option V := ofB (Rx (k.eq x y) fun b => some (Bool.rec (motive := fun _ => Bool -> Bool) (fun b => b) Vd neg b))
def ANU (x y : V) : Option V := nI (isStr x) (ABH slt x y) (AFh zZ x y)
def ALg (x y : V) : Option V := nI (isStr x) (ABH (fun l c m d => Vd (slt m d l c)) x y) (AFh ile x y)
def ALn (x y : V) : Option V := nI (isStr x) (ABH (fun l c m d => slt m d l c) x y) (AFh (fun a b => zZ b a) x y)
def AMl (x y : V) : Option V := nI (isStr x) (ABH (fun l c m d => Vd (slt l c m d)) x y) (AFh (fun a b => ile b a) x y)
def B2.ev (o : B2) : V -> V -> Option V := B2.rec (motive := fun _ => V -> V -> Option V)
 AMV AOq AOe (dvs Int.tdiv) AMp AL0 (AHs .or) (AHs .xor) (AHs .andNot) ANJ AM8 ANU ALg ALn AMl o
inductive AN where
 | mv (x : X)
 | pick (c a b : X)
 | ld1 (x : X)
 | ldn (n : Nat) (x : X)
 | AGr (x : X)
 | bin (o : B2) (x y : X)
 | eq (k : EK) (neg : Bool) (x y : X)
 | not (x : X)
 | neg (x : X)
 | cvi (k : IntKind) (x : X)
 | ARC (f : Nat) (first caps : List X)
 | AOd (off : Nat) (x : X)
 | field1 (off : Nat) (x : X)
 | AMA (off n : Nat) (x : X)
 | ANk (esz : Nat) (x i : X)
 | ALy (n esz : Nat) (x i : X)
 | AQu (x i : X)
 | AQq (n : Nat) (x i : X)
 | ext (x : X) (i : Nat)
 | WJ (x : X)
 | ARB (x : X)
 | AN4 (x : X)
 | AQB (n : Nat)
 | look (c : CK) (ok : Bool) (zero : V) (m k : X)
 | build (zero : List V) (parts : List (Nat × Nat × X))
 | AOQ (x : X) (lo hi : Option X)
 | slc (esz : Nat) (x : X) (lo hi mx : Option X)
 | AQ5 (n esz : Nat) (x : X) (lo hi : Option X)
 | AQI (x y : X)
 | AQM (x y : X)
 | cvS (x : X)
 | AJv (s c : X)
 | ABH (x y : X)
inductive AA where
 | alloc (esz : Nat) (es : List (List V))
 | box (x : X)
 | zi (esz cnt : Nat) (zero : List V) (parts : List (Nat × X))
 | qQ (esz bytes : Nat) (zero : List V) (l c : X)
 | AH3
inductive AE where
 | asg (x : X)
 | st (n : Nat) (x v : X)
 | app (esz bytes : Nat) (x y : X)
 | copy (esz : Nat) (x y : X)
 | ACp (c : CK) (m k v : X)
 | del (c : CK) (m k : X)
 | ANx (m : X)
 | call (f : Nat) (args : List X)
 | AEj (x : X) (args : List X)
 | defer (dp : P2) (x : X) (args : List X)
 | cvB (x : X)
inductive AO where
 | n (o : AN) | a (o : AA) | e (o : AE)
inductive aW where
 | no | to (p : P2) | ps
inductive Gd where
 | no | on (x : X) (b : Bool)
inductive jJ where
 | mk (d : aW) (g : Gd) (o : AO)
def AJV (n : Int) : (Nat -> Option V) -> Option V := Int.rec (motive := fun _ => (Nat -> Option V) -> Option V) (fun m f => f m) (fun _ _ => none) n
def TN (v : V) (f : Nat -> Option V) : Option V := v.F8 fun _ n s => BD (Nat.beq s 0) (AJV n f)
def Xb (x : Option X) : RS -> Nat -> (Nat -> Option V) -> Option V :=
 Option.rec (motive := fun _ => RS -> Nat -> (Nat -> Option V) -> Option V) (fun _ d f => f d) (fun x R _ f => TN (x.ev R) f) x
def f3 (a b c : Nat) (f : Nat -> Nat -> Nat -> V) : Option V := ES a fun a => ES b fun b => ES c fun c => some (f a b c)
def uj (R : RS) (lo hi mx : Option X) : Option V := Xb mx R 0 fun m => Xb hi R 0 fun h => Xb lo R 0 fun l => BD (band (Nat.ble l h) (band (Nat.ble h m) (Nat.beq m 0))) (some .Aa)
def ABW (z : Nat) (R : RS) (lo hi mx : Option X) (id off ln cap esz : Nat) : Option V := BD (Nat.beq z esz) (Xb mx R cap fun m => Xb hi R ln fun h => Xb lo R 0 fun l =>
 BD (band (Nat.ble l h) (band (Nat.ble h m) (Nat.ble m cap))) (f3 (Nat.add off l) (Nat.sub h l) (Nat.sub m l) fun o d c => .sl id o d c esz))
def qL (R : RS) (lo hi : Option X) (id off ln esz : Nat) : Option V := Xb hi R ln fun h => Xb lo R 0 fun l =>
 BD (band (Nat.ble l h) (Nat.ble h ln)) (f3 (Nat.add off l) (Nat.sub h l) 0 fun o d _ => .NY id o d esz)
def qR (R : RS) (lo hi : Option X) (mx : X) (id off ln esz : Nat) : Option V := TN (mx.ev R) fun m => Xb hi R 0 fun h => Xb lo R 0 fun l =>
 BD (band (Nat.ble l h) (band (Nat.ble h m) (Nat.ble m ln))) (f3 (Nat.add off l) (Nat.sub h l) (Nat.sub m l) fun o d c => .sl id o d c esz)
def nG (z : Nat) (R : RS) (lo hi mx : Option X) (id off ln esz : Nat) : Option V :=
 BD (Nat.beq z esz) (Option.rec (motive := fun _ => Option V) (qL R lo hi id off ln esz) (fun mx => qR R lo hi mx id off ln esz) mx)
def rF (z : Nat) (R : RS) (lo hi mx : Option X) (b off ln cap esz : Nat) : Option V := Xb hi R ln fun h => Xb lo R 0 fun l =>
 Option.rec (motive := fun _ => Option V) (BD (band (Nat.ble l h) (Nat.ble h cap)) (f3 (Nat.add off (Nat.mul l z)) (Nat.sub h l) (Nat.sub cap l) fun o d c => .rsl b o d c esz)) (fun _ => none) mx
def qB (z : Nat) (x : V) (R : RS) (lo hi mx : Option X) : Option V := x.AIu (uj R lo hi mx) (ABW z R lo hi mx) (nG z R lo hi mx) (rF z R lo hi mx)
def AEf (x : V) (R : RS) (lo hi : Option X) : Option V :=
 x.QS fun ln c => Xb hi R ln fun h => Xb lo R 0 fun l => BD (band (Nat.ble l h) (Nat.ble h ln)) (f3 (Nat.sub h l) (AOB c l h) 0 fun d c _ => .str d c)
def Ai (esz : Nat) (x i : V) : Option V := TN i fun i => x.AIu none
 (fun id off ln _ e => BD (band (Nat.beq e esz) (Nat.blt i ln)) (ES (Nat.mul (Nat.add off i) esz) fun o => some (.ptr id o)))
 (fun id off ln e => BD (band (Nat.beq e esz) (Nat.blt i ln)) (ES (Nat.mul (Nat.add off i) esz) fun o => some (.ptr id o)))
 (fun b off ln _ _ => BD (Nat.blt i ln) (ES (Nat.add off (Nat.mul i esz)) fun o => some (.gptr b o)))
def AQ (off : Nat) (x : V) : Option V := x.ABn (fun id o => ES (Nat.add o off) fun o => some (.ptr id o)) (fun b o => ES (Nat.add o off) fun o => some (.gptr b o))
abbrev ME := List (V × V × Nat)
def Zl (c : CK) (k : V) (es : ME) : Nat -> Option (Option (Nat × V)) :=
 List.rec (motive := fun _ => Nat -> Option (Option (Nat × V))) (fun _ => some none)
  (fun e _ g i => A8 (c.eq e.1 k) fun r => Bool.rec (g (Nat.succ i)) (some (some (i, e.2.1))) r) es
def AN2 (b : NR) : (ME -> Nat -> Option V) -> Option V := NR.rec (motive := fun _ => (ME -> Nat -> Option V) -> Option V) (fun _ _ _ _ => none) (fun es c f => f es c) (fun _ => none) b
def OO (H : Heap) (m : V) (f : ME -> Nat -> Option V) : Option V := m.ADg (f [] 0) fun id => Option.rec (motive := fun _ => (ME -> Nat -> Option V) -> Option V) (fun _ => none) AN2 (T.get H id) f
def nY (parts : List (Nat × Nat × X)) : RS -> List V -> List V :=
 List.rec (motive := fun _ => RS -> List V -> List V) (fun _ l => l) (fun p _ g R l => g R (AC4 (Am (p.2.2.ev R)) p.1 l)) parts
def U3 (v : V) : Bool :=
 V.rec (motive_1 := fun _ => Bool) (motive_2 := fun _ => PUnit)
  (false)
  (fun _ _ _ => true)
  (fun _ => true)
  (fun _ _ => true)
  (true)
  (fun _ _ => true)
  (fun _ _ => true)
  (true)
  (fun _ _ _ _ _ => true)
  (fun _ _ _ _ => true)
  (fun _ _ _ _ _ => true)
  (true)
  (fun _ => true)
  (true)
  (fun _ _ _ _ _ => true)
  (fun _ _ => true)
  (fun _ _ => false)
  (true)
  (fun _ _ _ => true)
  ⟨⟩ (fun _ _ _ _ => ⟨⟩) v
def YT (parts : List (Nat × Nat × X)) : RS -> Bool :=
 List.rec (motive := fun _ => RS -> Bool) (fun _ => true) (fun p _ g R => band (band (U3 (p.2.2.ev R)) (Nat.beq (len (Am (p.2.2.ev R))) p.2.1)) (g R)) parts
abbrev Df := List LV
def Bc (H : Heap) (id esz : Nat) (n : Nat) : Nat -> Option Df :=
 Nat.rec (motive := fun _ => Nat -> Option Df) (fun _ => some [])
  (fun _ g o => A8 (YF H id (Nat.mul o esz) esz) fun L => A8 (g (Nat.succ o)) fun LS => some (L :: LS)) n
def Z7 (G : AL) (b esz : Nat) (n : Nat) : Nat -> Option Df :=
 Nat.rec (motive := fun _ => Nat -> Option Df) (fun _ => some [])
  (fun _ g o => A8 (G b o esz) fun L => A8 (g (Nat.add o esz)) fun LS => some (L :: LS)) n
def Vj (n : Nat) : Nat -> Df :=
 Nat.rec (motive := fun _ => Nat -> Df) (fun _ => []) (fun _ g c => [.int .u8 (.ofNat (Nat.mod c 256)) 0] :: g (Nat.div c 256)) n
def elems (v : V) : (AL) -> (Heap) -> (Nat) -> Option Df :=
 V.rec (motive_1 := fun _ => (AL) -> (Heap) -> (Nat) -> Option Df) (motive_2 := fun _ => PUnit)
  (fun _ _ _ => none)
  (fun _ _ _ _ _ _ => none)
  (fun _ _ _ _ => none)
  (fun a b _ _ z => Bool.rec (motive := fun _ => Option Df) none (some (Vj a b)) (Nat.beq 1 z))
  (fun _ _ _ => none)
  (fun _ _ _ _ _ => none)
  (fun _ _ _ _ _ => none)
  (fun _ _ _ => some [])
  (fun a b c _ e _ H z => Bool.rec (motive := fun _ => Option Df) none (Bc H a z c b) (Nat.beq e z))
  (fun a b c d _ H z => Bool.rec (motive := fun _ => Option Df) none (Bc H a z c b) (Nat.beq d z))
  (fun a b c _ _ G _ z => Z7 G a z c b)
  (fun _ _ _ => none)
  (fun _ _ _ _ => none)
  (fun _ _ _ => none)
  (fun _ _ _ _ _ _ _ _ => none)
  (fun _ _ _ _ _ => none)
  (fun _ _ _ _ _ => none)
  (fun _ _ _ => none)
  (fun _ _ _ _ _ _ => none)
  ⟨⟩ (fun _ _ _ _ => ⟨⟩) v
def byteOf (v : V) : Option Nat :=
 V.rec (motive_1 := fun _ => Option Nat) (motive_2 := fun _ => PUnit)
  (none)
  (fun a b c => Int.rec (motive := fun _ => Nat -> Option Nat) (fun m t => Bool.rec none (some m) (band (Nat.beq (kno a) 4) (band (Nat.blt m 256) (Nat.beq t 0)))) (fun _ _ => none) b c)
  (fun _ => none)
  (fun _ _ => none)
  (none)
  (fun _ _ => none)
  (fun _ _ => none)
  (none)
  (fun _ _ _ _ _ => none)
  (fun _ _ _ _ => none)
  (fun _ _ _ _ _ => none)
  (none)
  (fun _ => none)
  (none)
  (fun _ _ _ _ _ => none)
  (fun _ _ => none)
  (fun _ _ => none)
  (none)
  (fun _ _ _ => none)
  ⟨⟩ (fun _ _ _ _ => ⟨⟩) v
def xX (l : Df) : Option Nat :=
 List.rec (motive := fun _ => Option Nat) (some 0) (fun x _ g => A8 (nth x 0) fun v => A8 (byteOf v) fun m => A8 g fun c => some (Nat.add m (Nat.mul 256 c))) l
def tC (b : Nat) (f : Nat) : Nat -> Nat -> Int :=
 Nat.rec (motive := fun _ => Nat -> Nat -> Int) (fun _ _ => .negSucc 0)
  (fun _ g c i => Bool.rec (g (Nat.div c 256) (Nat.succ i)) (.ofNat i) (Nat.beq (Nat.mod c 256) b)) f
abbrev aY := AL -> RS -> Heap -> Option V
def eMv (x : X) : aY := fun _ R _ => some (x.ev R)
def AE9 (c a b : X) : aY := fun _ R _ => (c.ev R).ZY fun t => nI t (some (a.ev R)) (some (b.ev R))
def AKC (x : X) : aY := fun G R H => QG (fF (x.ev R) G H 1) fun L => nth L 0
def AJm (n : Nat) (x : X) : aY := fun G R H => QG (fF (x.ev R) G H n) fun L => some (.agg L)
def AAS (x : X) : aY := fun _ R _ => Az (x.ev R)
def AJn (o : B2) (x y : X) : aY := fun _ R _ => o.ev (x.ev R) (y.ev R)
def eEq (k : EK) (neg : Bool) (x y : X) : aY := fun _ R _ => Dx k neg (x.ev R) (y.ev R)
def AKI (x : X) : aY := fun _ R _ => (x.ev R).ZY fun b => wQ (Vd b)
def AKb (x : X) : aY := fun _ R _ => (x.ev R).F8 fun k n s => mkI k (Int.neg n) s
def AJi (k : IntKind) (x : X) : aY := fun _ R _ => (x.ev R).F8 fun _ n s => mkI k n s
def AEv (f : Nat) (a c : List X) : aY := fun _ R _ => some (.fn f (Xu a R) (Xu c R))
def zS (off : Nat) (x : X) : aY := fun _ R _ => AQ off (x.ev R)
def qc (off : Nat) (x : X) : aY := fun _ R _ => (x.ev R).oZ fun l => nth l off
def qW (off n : Nat) (x : X) : aY := fun _ R _ => (x.ev R).oZ fun l => some (.agg (Uf n (aS off l)))
def zX (esz : Nat) (x i : X) : aY := fun _ R _ => Ai esz (x.ev R) (i.ev R)
def qM (n esz : Nat) (x i : X) : aY := fun _ R _ => TN (i.ev R) fun i => BD (Nat.blt i n) (AQ (Nat.mul i esz) (x.ev R))
def AEh (x i : X) : aY := fun _ R _ => (x.ev R).QS fun ln c => TN (i.ev R) fun i => BD (Nat.blt i ln) (ES (AGN c i) fun b => some (.int .u8 (.ofNat b) 0))
def AEs (n : Nat) (x i : X) : aY := fun _ R _ => (x.ev R).oZ fun l => TN (i.ev R) fun i => BD (Nat.blt i n) (nth l i)
def AJo (x : X) (i : Nat) : aY := fun _ R _ => (x.ev R).ACD fun l => nth l i
def AEN (x : X) : aY := fun _ R _ => (x.ev R).QS fun n _ => some (.int .i64 (.ofNat n) 0)
def AEx (x : X) : aY := fun _ R _ => lenV (x.ev R)
def AE4 (x : X) : aY := fun _ R H => OO H (x.ev R) fun es _ => ES (len es) fun n => some (.int .i64 (.ofNat n) 0)
def APJ (n : Nat) : aY := fun _ _ _ => some (.int .i64 (.ofNat n) 0)
def AEi (ok : Bool) (z : V) (r : Option (Nat × V)) : Option V :=
 Option.rec (motive := fun _ => Option V) (nI ok (some (.II [z, .bool false])) (some z)) (fun p => nI ok (some (.II [p.2, .bool true])) (some p.2)) r
def AEg (c : CK) (ok : Bool) (z : V) (m k : X) : aY := fun _ R H => OO H (m.ev R) fun es _ => A8 (Zl c (k.ev R) es 0) (AEi ok z)
def AAl (z : LV) (ps : List (Nat × Nat × X)) : aY := fun _ R _ => BD (YT ps R) (some (.agg (nY ps R z)))
def uF (x : X) (lo hi : Option X) : aY := fun _ R _ => AEf (x.ev R) R lo hi
def AJ9 (z : Nat) (x : X) (lo hi mx : Option X) : aY := fun _ R _ => qB z (x.ev R) R lo hi mx
def AEP (n esz : Nat) (x : X) (lo hi : Option X) : aY := fun _ R _ => (x.ev R).ABn (fun id o => Xb hi R n fun h => Xb lo R 0 fun l =>
 BD (band (Nat.beq (Nat.mod o esz) 0) (band (Nat.ble l h) (Nat.ble h n))) (f3 (Nat.add (Nat.div o esz) l) (Nat.sub h l) (Nat.sub n l) fun a b c => .sl id a b c esz)) (fun _ _ => none)
def AJb (x y : X) : aY := fun _ R _ => (x.ev R).F8 fun k a s => (y.ev R).F8 fun k' b t => BD (band (keq k k') (Nat.beq (Nat.add s t) 0)) (some (.int k (Bool.rec a b (zZ a b)) 0))
def AJA (x y : X) : aY := fun _ R _ => (x.ev R).F8 fun k a s => (y.ev R).F8 fun k' b t => BD (band (keq k k') (Nat.beq (Nat.add s t) 0)) (some (.int k (Bool.rec a b (zZ b a)) 0))
def AKJ (x : X) : aY := fun G R H => BD (Vd (isStr (x.ev R))) (A8 (elems (x.ev R) G H 1) fun l => A8 (xX l) fun c => f3 (len l) c 0 fun n c _ => .str n c)
def AAh (s c : X) : aY := fun _ R _ => (s.ev R).QS fun n cd => (c.ev R).F8 fun k b _ => BD (Nat.beq (kno k) 4) (AJV b fun b => BD (Nat.blt b 256) (Oa (tC b n cd 0) fun i => some (.int .i64 i 0)))
def AH6 (x y : V) : Option V := x.QS fun l c => y.QS fun m d => some (.int .i64 (Bool.rec (Bool.rec (.ofNat 0) (.ofNat 1) (slt m d l c)) (.negSucc 0) (slt l c m d)) 0)
def AEu (x y : X) : aY := fun _ R _ => AH6 (x.ev R) (y.ev R)
def AN.ev (o : AN) : aY := AN.rec (motive := fun _ => aY)
 eMv AE9 AKC AJm AAS AJn eEq AKI AKb AJi AEv zS qc qW zX qM AEh AEs AJo AEN AEx AE4 APJ AEg AAl uF AJ9 AEP AJb AJA AKJ AAh AEu o
def jv (L : LV) (n : Nat) : T LV -> T LV :=
 Nat.rec (motive := fun _ => T LV -> T LV) (fun t => t) (fun i g t => g (T.set t i L)) n
def EL (LS : Df) : Nat -> T LV -> T LV :=
 List.rec (motive := fun _ => Nat -> T LV -> T LV) (fun _ t => t) (fun L _ g i t => g (Nat.succ i) (T.set t i L)) LS
def Ye (parts : List (Nat × X)) : RS -> T LV -> T LV :=
 List.rec (motive := fun _ => RS -> T LV -> T LV) (fun _ t => t) (fun p _ g R t => g R (T.set t p.1 (Am (p.2.ev R)))) parts
def U7 (parts : List (Nat × X)) : RS -> Nat -> Nat -> Bool :=
 List.rec (motive := fun _ => RS -> Nat -> Nat -> Bool) (fun _ _ _ => true) (fun p _ g R esz cnt => band (band (U3 (p.2.ev R)) (band (Nat.blt p.1 cnt) (Nat.beq (len (Am (p.2.ev R))) esz))) (g R esz cnt)) parts
def V.AHx (v : V) : (Nat -> Prop) -> Prop :=
 V.rec (motive_1 := fun _ => (Nat -> Prop) -> Prop) (motive_2 := fun _ => PUnit)
  (fun _ => False)
  (fun _ _ _ _ => False)
  (fun _ _ => False)
  (fun _ _ _ => False)
  (fun _ => False)
  (fun a _ f => f a)
  (fun _ _ _ => False)
  (fun _ => False)
  (fun _ _ _ _ _ _ => False)
  (fun _ _ _ _ _ => False)
  (fun _ _ _ _ _ _ => False)
  (fun _ => False)
  (fun _ _ => False)
  (fun _ => False)
  (fun _ _ _ _ _ _ => False)
  (fun _ _ _ => False)
  (fun _ _ _ => False)
  (fun _ => False)
  (fun _ _ _ _ => False)
  ⟨⟩ (fun _ _ _ _ => ⟨⟩) v
def V.qo (v : V) : (Nat -> Nat -> Prop) -> Prop :=
 V.rec (motive_1 := fun _ => (Nat -> Nat -> Prop) -> Prop) (motive_2 := fun _ => PUnit)
  (fun _ => False)
  (fun _ _ _ _ => False)
  (fun _ _ => False)
  (fun _ _ _ => False)
  (fun _ => False)
  (fun a b f => f a b)
  (fun _ _ _ => False)
  (fun _ => False)
  (fun _ _ _ _ _ _ => False)
  (fun _ _ _ _ _ => False)
  (fun _ _ _ _ _ _ => False)
  (fun _ => False)
  (fun _ _ => False)
  (fun _ => False)
  (fun _ _ _ _ _ _ => False)
  (fun _ _ _ => False)
  (fun _ _ _ => False)
  (fun _ => False)
  (fun _ _ _ _ => False)
  ⟨⟩ (fun _ _ _ _ => ⟨⟩) v
abbrev KA := NR -> (Nat -> V) -> Prop
abbrev AlT := RS -> KA -> Prop
def Ko (b : Bool) (p : Prop) : Prop := Bool.rec (motive := fun _ => Prop -> Prop) (fun _ => False) (fun p => p) b p
def zW (v : V) (f : Nat -> Prop) : Prop := Gp (TN v fun n => some (.ptr n 0)) fun v => V.AHx v f
def Ag (esz : Nat) (es : Df) : AlT := fun _ k => CV (len es) fun n => k (.arr esz n (EL es 0 .e)) fun id => .ptr id 0
def xC (x : X) : AlT := fun R k => Ko (U3 (x.ev R)) (CV (len (Am (x.ev R))) fun e => k (.arr e 1 (T.set .e 0 (Am (x.ev R)))) fun id => .ptr id 0)
def Au (esz cnt : Nat) (z : LV) (ps : List (Nat × X)) : AlT := fun R k => Ko (U7 ps R esz cnt) (k (.arr esz cnt (Ye ps R (jv z cnt .e))) fun id => .sl id 0 cnt cnt esz)
def J5 (esz bs : Nat) (z : LV) (l c : X) : AlT := fun R k => zW (l.ev R) fun l => zW (c.ev R) fun c =>
 Ko (band (Nat.ble l c) (Nat.ble (Nat.mul bs c) 281474976710656)) (k (.arr esz c (jv z c .e)) fun id => .sl id 0 l c esz)
def vg : AlT := fun _ k => k (.map [] 0) fun id => .map id
def AA.al (o : AA) : AlT := AA.rec (motive := fun _ => AlT) Ag xC Au J5 vg o
abbrev K := Gv -> Heap -> Nat -> Prop
abbrev KV := V -> Heap -> Nat -> Prop
abbrev AV := Nat -> List V -> Heap -> Nat -> KV -> Prop
def OH (need bytes : Nat) : Bool := Nat.ble (Nat.mul need bytes) 140737488355328
abbrev ADc := AL -> Nat -> Nat -> Df -> Heap -> Nat -> KV -> Prop
def Ir (esz bs : Nat) (OS LS : Df) (H : Heap) (n : Nat) (k : KV) : Prop :=
 CV (Nat.add (len OS) (len LS)) fun need => Ko (OH need bs) (CV n fun n => k (.NY n 0 need esz) (T.set H n (.arr esz need (EL LS (len OS) (EL OS 0 .e)))) (Nat.succ n))
def ALi : ADc := fun _ esz bs LS H n k => List.rec (motive := fun _ => Prop) (k .Aa H n) (fun _ _ _ => Ir esz bs [] LS H n k) LS
def eU (id off ln cap esz need : Nat) (LS : Df) (H : Heap) (n : Nat) (k : KV) (b : NR) : Prop :=
 NR.rec (motive := fun _ => Prop) (fun esz' cnt c => Ko (band (Nat.beq esz esz') (Nat.ble (Nat.add off need) cnt)) (k (.sl id off need cap esz) (T.set H id (.arr esz cnt (EL LS (Nat.add off ln) c))) n)) (fun _ _ => False) False b
def AKo (id off ln cap e : Nat) : ADc := fun _ esz bs LS H n k => Ko (Nat.beq e esz) (CV (Nat.add ln (len LS)) fun need =>
 Bool.rec (motive := fun _ => Prop) (Gp (Bc H id esz ln off) fun OS => Ir esz bs OS LS H n k) (Gp (T.get H id) fun b => eU id off ln cap esz need LS H n k b) (Nat.ble need cap))
def Ws (id off ln esz bs : Nat) (LS : Df) (H : Heap) (n : Nat) (k : KV) (b : NR) : Prop :=
 NR.rec (motive := fun _ => Prop) (fun esz' cnt c => CV (Nat.add ln (len LS)) fun need => Ko (band (OH need bs) (band (Nat.beq esz esz') (Nat.ble (Nat.add off ln) cnt)))
  (CV n fun n => Nat.rec (motive := fun _ => Prop)
   (k (.NY n 0 need esz) (T.set (T.set H id .dead) n (.arr esz need (EL LS ln c))) (Nat.succ n))
   (fun _ _ => Gp (Bc H id esz ln off) fun OS => k (.NY n 0 need esz) (T.set (T.set H id .dead) n (.arr esz need (EL LS ln (EL OS 0 .e)))) (Nat.succ n)) off))
  (fun _ _ => False) False b
def AG2 (id off ln e : Nat) : ADc := fun _ esz bs LS H n k => Ko (Nat.beq e esz) (List.rec (motive := fun _ => Prop) (k (.NY id off ln esz) H n)
 (fun _ _ _ => Gp (T.get H id) fun b => Ws id off ln esz bs LS H n k b) LS)
def AHv (b off ln cap e : Nat) : ADc := fun G esz bs LS H n k => Ko (Nat.blt cap (Nat.add ln (len LS))) (Gp (Z7 G b esz ln off) fun OS => Ir esz bs OS LS H n k)
def Vp : ADc := fun _ _ _ _ _ _ _ => False
def zh (v : V) : ADc :=
 V.rec (motive_1 := fun _ => ADc) (motive_2 := fun _ => PUnit)
  (Vp)
  (fun _ _ _ => Vp)
  (fun _ => Vp)
  (fun _ _ => Vp)
  (Vp)
  (fun _ _ => Vp)
  (fun _ _ => Vp)
  (ALi)
  (fun a b c d e => AKo a b c d e)
  (fun a b c d => AG2 a b c d)
  (fun a b c d e => AHv a b c d e)
  (Vp)
  (fun _ => Vp)
  (Vp)
  (fun _ _ _ _ _ => Vp)
  (fun _ _ => Vp)
  (fun _ _ => Vp)
  (Vp)
  (fun _ _ _ => Vp)
  ⟨⟩ (fun _ _ _ _ => ⟨⟩) v
def AGR (id off esz : Nat) (LS : Df) (H : Heap) (n : Nat) (k : KV) (b : NR) : Prop :=
 NR.rec (motive := fun _ => Prop) (fun esz' cnt c => Ko (band (Nat.beq esz esz') (Nat.ble (Nat.add off (len LS)) cnt)) (CV (len LS) fun m => k (.int .i64 (.ofNat m) 0) (T.set H id (.arr esz cnt (EL LS off c))) n)) (fun _ _ => False) False b
abbrev CpT := Nat -> Df -> Heap -> Nat -> KV -> Prop
def qw (id off ln : Nat) : CpT := fun esz LS H n k => Gp (T.get H id) fun b => AGR id off esz (Uf ln LS) H n k b
def yG (v : V) : (Nat) -> (Df) -> (Heap) -> (Nat) -> (KV) -> Prop :=
 V.rec (motive_1 := fun _ => (Nat) -> (Df) -> (Heap) -> (Nat) -> (KV) -> Prop) (motive_2 := fun _ => PUnit)
  (fun _ _ _ _ _ => False)
  (fun _ _ _ _ _ _ _ _ => False)
  (fun _ _ _ _ _ _ => False)
  (fun _ _ _ _ _ _ _ => False)
  (fun _ _ _ _ _ => False)
  (fun _ _ _ _ _ _ _ => False)
  (fun _ _ _ _ _ _ _ => False)
  (fun _ _ H n k => k (.int .i64 (.ofNat 0) 0) H n)
  (fun a b c _ e z L H n k => Ko (Nat.beq e z) (qw a b c z L H n k))
  (fun a b c d z L H n k => Ko (Nat.beq d z) (qw a b c z L H n k))
  (fun _ _ _ _ _ _ _ _ _ _ => False)
  (fun _ _ _ _ _ => False)
  (fun _ _ _ _ _ _ => False)
  (fun _ _ _ _ _ => False)
  (fun _ _ _ _ _ _ _ _ _ _ => False)
  (fun _ _ _ _ _ _ _ => False)
  (fun _ _ _ _ _ _ _ => False)
  (fun _ _ _ _ _ => False)
  (fun _ _ _ _ _ _ _ _ => False)
  ⟨⟩ (fun _ _ _ _ => ⟨⟩) v
def uV {α : Type} (l : List α) : Nat -> List α :=
 List.rec (motive := fun _ => Nat -> List α) (fun _ => []) (fun y ys g i => Nat.rec (motive := fun _ => List α) ys (fun i _ => y :: g i) i) l
def ALE (b : NR) : (ME -> Nat -> Option NR) -> Option NR := NR.rec (motive := fun _ => (ME -> Nat -> Option NR) -> Option NR) (fun _ _ _ _ => none) (fun es c f => f es c) (fun _ => none) b
def APn (H : Heap) (id : Nat) (f : ME -> Nat -> Option NR) (g : Heap -> Prop) : Prop := Gp (T.get H id) fun b => Gp (ALE b f) fun b => g (T.set H id b)
def wL (v : V) : (Heap) -> (ME -> Nat -> Option NR) -> (Heap -> Prop) -> Prop :=
 V.rec (motive_1 := fun _ => (Heap) -> (ME -> Nat -> Option NR) -> (Heap -> Prop) -> Prop) (motive_2 := fun _ => PUnit)
  (fun _ _ _ => False)
  (fun _ _ _ _ _ _ => False)
  (fun _ _ _ _ => False)
  (fun _ _ _ _ _ => False)
  (fun _ _ _ => False)
  (fun _ _ _ _ _ => False)
  (fun _ _ _ _ _ => False)
  (fun _ _ _ => False)
  (fun _ _ _ _ _ _ _ _ => False)
  (fun _ _ _ _ _ _ _ => False)
  (fun _ _ _ _ _ _ _ _ => False)
  (fun _ _ _ => False)
  (fun a H f g => APn H a f g)
  (fun _ _ _ => False)
  (fun _ _ _ _ _ _ _ _ => False)
  (fun _ _ _ _ _ => False)
  (fun _ _ _ _ _ => False)
  (fun _ _ _ => False)
  (fun _ _ _ _ _ _ => False)
  ⟨⟩ (fun _ _ _ _ => ⟨⟩) v
def V.Tz (v : V) : (Nat -> LV -> LV -> Prop) -> Prop :=
 V.rec (motive_1 := fun _ => (Nat -> LV -> LV -> Prop) -> Prop) (motive_2 := fun _ => PUnit)
  (fun _ => False)
  (fun _ _ _ _ => False)
  (fun _ _ => False)
  (fun _ _ _ => False)
  (fun _ => False)
  (fun _ _ _ => False)
  (fun _ _ _ => False)
  (fun _ => False)
  (fun _ _ _ _ _ _ => False)
  (fun _ _ _ _ _ => False)
  (fun _ _ _ _ _ _ => False)
  (fun _ => False)
  (fun _ _ => False)
  (fun _ => False)
  (fun a b c _ _ f => f a b c)
  (fun _ _ _ => False)
  (fun _ _ _ => False)
  (fun _ => False)
  (fun _ _ _ _ => False)
  ⟨⟩ (fun _ _ _ _ => ⟨⟩) v
def ACi (v : V) : LV :=
 V.rec (motive_1 := fun _ => LV) (motive_2 := fun _ => PUnit)
  ([])
  (fun _ _ _ => [])
  (fun _ => [])
  (fun _ _ => [])
  ([])
  (fun _ _ => [])
  (fun _ _ => [])
  ([])
  (fun _ _ _ _ _ => [])
  (fun _ _ _ _ => [])
  (fun _ _ _ _ _ => [])
  ([])
  (fun _ => [])
  ([])
  (fun _ _ _ _ _ => [])
  (fun _ _ => [])
  (fun a _ => a)
  ([])
  (fun _ _ _ => [])
  ⟨⟩ (fun _ _ _ _ => ⟨⟩) v
abbrev ExT := AL -> AV -> RS -> Heap -> Nat -> KV -> Prop
def AQ0 (x : X) : ExT := fun _ _ R H n k => k (x.ev R) H n
def xSt (sz : Nat) (x v : X) : ExT := fun _ _ R H n k => Ko (band (U3 (v.ev R)) (Nat.beq (len (Am (v.ev R))) sz)) (Gp (stP (x.ev R) H sz (Am (v.ev R))) fun H => k .undef H n)
def AQK (esz bs : Nat) (x y : X) : ExT := fun G _ R H n k => Gp (elems (y.ev R) G H esz) fun LS => zh (x.ev R) G esz bs LS H n k
def ANl (esz : Nat) (x y : X) : ExT := fun G _ R H n k => Gp (elems (y.ev R) G H esz) fun LS => yG (x.ev R) esz LS H n k
def ADh (ck : CK) (key v : V) (es : ME) (c : Nat) : Option NR := A8 (Zl ck key es 0) fun r =>
 Option.rec (motive := fun _ => Option NR) (some (.map (cat es [(key, v, c)]) (Nat.succ c))) (fun p => A8 (nth es p.1) fun e => some (.map (Yf (e.1, v, e.2.2) es p.1) c)) r
def AL3 (ck : CK) (key : V) (es : ME) (c : Nat) : Option NR := A8 (Zl ck key es 0) fun r =>
 Option.rec (motive := fun _ => Option NR) (some (.map es c)) (fun p => some (.map (uV es p.1) c)) r
def AQ7 (c : CK) (m key v : X) : ExT := fun _ _ R H n k => wL (m.ev R) H (ADh c (key.ev R) (v.ev R)) fun H => k .undef H n
def AQg (c : CK) (m key : X) : ExT := fun _ _ R H n k => wL (m.ev R) H (AL3 c (key.ev R)) fun H => k (.II []) H n
def AQx (m : X) : ExT := fun _ _ R H n k => wL (m.ev R) H (fun _ c => some (.map [] c)) fun H => k (.II []) H n
def AO5 (f : Nat) (args : List X) : ExT := fun _ call R H n k => call f (Xu args R) H n k
def ALX (x : X) (args : List X) : ExT := fun _ call R H n k => V.Tz (x.ev R) fun f a c => call f (cat a (cat (Xu args R) c)) H n k
def AMO (dp : P2) (x : X) (args : List X) : ExT := fun _ _ R H n k => V.Tz (x.ev R) fun f a c => k (.II (.fn f (cat a (Xu args R)) c :: ACi (KI (T.C9 dp R.rg)))) H n
def AQW (x : X) : ExT := fun _ _ R H n k => Gp ((x.ev R).QS fun l c => some (.ptr l c)) fun v => V.qo v fun l c =>
 CV n fun n => k (.NY n 0 l 1) (T.set H n (.arr 1 l (EL (Vj l c) 0 .e))) (Nat.succ n)
def AE.ex (o : AE) : ExT := AE.rec (motive := fun _ => ExT) AQ0 xSt AQK ANl AQ7 AQg AQx AO5 ALX AMO AQW o
def AQR (p : P2) (v : V) (E : RS) : RS := RS.rec (motive := fun _ => P2 -> V -> RS) (fun L R p v => .mk L (T.X3 v p R)) E p v
def AO8 (v : V) (E : RS) : RS := RS.rec (motive := fun _ => V -> RS) (fun L R v => .mk (v :: L) R) E v
def ET (d : aW) (v : V) : RS -> RS := aW.rec (motive := fun _ => V -> RS -> RS) (fun _ R => R) AQR AO8 d v
abbrev KE := RS -> Heap -> Nat -> Prop
abbrev XoT := AL -> AV -> aW -> RS -> Heap -> Nat -> KE -> Prop
def oN (o : AN) : XoT := fun G _ d R H n k => AP (o.ev G R H) fun v => k (ET d v R) H n
def oA (o : AA) : XoT := fun _ _ d R H n k => o.al R fun b f => CV n fun n => k (ET d (f n) R) (T.set H n b) (Nat.succ n)
def oE (o : AE) : XoT := fun G call d R H n k => o.ex G call R H n fun v H n => k (ET d v R) H n
def AO.ex (o : AO) : XoT := AO.rec (motive := fun _ => XoT) oN oA oE o
def Ad (v : V) (b : Bool) (yes no : Prop) : Prop := v.zJ fun t => Bool.rec (motive := fun _ => Prop -> Prop -> Prop) (fun _ n => n) (fun y _ => y) (AH4 t b) yes no
def ZV (v : V) : (Bool) -> (Prop) -> (Prop) -> Prop :=
 V.rec (motive_1 := fun _ => (Bool) -> (Prop) -> (Prop) -> Prop) (motive_2 := fun _ => PUnit)
  (fun _ _ _ => False)
  (fun _ _ _ _ _ _ => False)
  (fun a b' yes no => Bool.rec (motive := fun _ => Prop -> Prop -> Prop) (fun _ n => n) (fun y _ => y) (AH4 a b') yes no)
  (fun _ _ _ _ _ => False)
  (fun _ _ _ => False)
  (fun _ _ _ _ _ => False)
  (fun _ _ _ _ _ => False)
  (fun _ _ _ => False)
  (fun _ _ _ _ _ _ _ _ => False)
  (fun _ _ _ _ _ _ _ => False)
  (fun _ _ _ _ _ _ _ _ => False)
  (fun _ _ _ => False)
  (fun _ _ _ _ => False)
  (fun _ _ _ => False)
  (fun _ _ _ _ _ _ _ _ => False)
  (fun _ _ _ _ _ => False)
  (fun a _ _ _ no => List.rec (motive := fun _ => Prop) no (fun _ _ _ => False) a)
  (fun _ _ _ => False)
  (fun _ _ _ _ _ _ => False)
  ⟨⟩ (fun _ _ _ _ => ⟨⟩) v
abbrev o9 := AL -> AV -> RS -> Heap -> Nat -> KE -> Prop
def gNo (d : aW) (o : AO) : o9 := fun G call R H n k => o.ex G call d R H n k
def gOn (x : X) (b : Bool) (d : aW) (o : AO) : o9 := fun G call R H n k => ZV (x.ev R) b (o.ex G call d R H n k) (k (ET d (.II []) R) H n)
def jJ.ex (o : jJ) : o9 := jJ.rec (motive := fun _ => o9) (fun d g o => Gd.rec (motive := fun _ => aW -> AO -> o9) gNo gOn g d o) o
def AB1 (v : V) : (IntKind) -> (Int) -> (Nat) -> Bool :=
 V.rec (motive_1 := fun _ => (IntKind) -> (Int) -> (Nat) -> Bool) (motive_2 := fun _ => PUnit)
  (fun _ _ _ => false)
  (fun a b c k n s => band (keq k a) (band (ieq n b) (band (Nat.beq s 0) (Nat.beq c 0))))
  (fun _ _ _ _ => false)
  (fun _ _ _ _ _ => false)
  (fun _ _ _ => false)
  (fun _ _ _ _ _ => false)
  (fun _ _ _ _ _ => false)
  (fun _ _ _ => false)
  (fun _ _ _ _ _ _ _ _ => false)
  (fun _ _ _ _ _ _ _ => false)
  (fun _ _ _ _ _ _ _ _ => false)
  (fun _ _ _ => false)
  (fun _ _ _ _ => false)
  (fun _ _ _ => false)
  (fun _ _ _ _ _ _ _ _ => false)
  (fun _ _ _ _ _ => false)
  (fun _ _ _ _ _ => false)
  (fun _ _ _ => false)
  (fun _ _ _ _ _ _ => false)
  ⟨⟩ (fun _ _ _ _ => ⟨⟩) v
def uz (v : V) : (Bool) -> Bool :=
 V.rec (motive_1 := fun _ => (Bool) -> Bool) (motive_2 := fun _ => PUnit)
  (fun _ => false)
  (fun _ _ _ _ => false)
  (fun a x => AH4 x a)
  (fun _ _ _ => false)
  (fun _ => false)
  (fun _ _ _ => false)
  (fun _ _ _ => false)
  (fun _ => false)
  (fun _ _ _ _ _ _ => false)
  (fun _ _ _ _ _ => false)
  (fun _ _ _ _ _ _ => false)
  (fun _ => false)
  (fun _ _ => false)
  (fun _ => false)
  (fun _ _ _ _ _ _ => false)
  (fun _ _ _ => false)
  (fun _ _ _ => false)
  (fun _ => false)
  (fun _ _ _ _ => false)
  ⟨⟩ (fun _ _ _ _ => ⟨⟩) v
def AGa (v : V) : (Nat) -> (Nat) -> Bool :=
 V.rec (motive_1 := fun _ => (Nat) -> (Nat) -> Bool) (motive_2 := fun _ => PUnit)
  (fun _ _ => false)
  (fun _ _ _ _ _ => false)
  (fun _ _ _ => false)
  (fun a b l m => band (Nat.beq l a) (Nat.beq m b))
  (fun _ _ => false)
  (fun _ _ _ _ => false)
  (fun _ _ _ _ => false)
  (fun _ _ => false)
  (fun _ _ _ _ _ _ _ => false)
  (fun _ _ _ _ _ _ => false)
  (fun _ _ _ _ _ _ _ => false)
  (fun _ _ => false)
  (fun _ _ _ => false)
  (fun _ _ => false)
  (fun _ _ _ _ _ _ _ => false)
  (fun _ _ _ _ => false)
  (fun _ _ _ _ => false)
  (fun _ _ => false)
  (fun _ _ _ _ _ => false)
  ⟨⟩ (fun _ _ _ _ => ⟨⟩) v
def zK (v : V) : Bool :=
 V.rec (motive_1 := fun _ => Bool) (motive_2 := fun _ => PUnit)
  (false)
  (fun _ _ _ => false)
  (fun _ => false)
  (fun _ _ => false)
  (true)
  (fun _ _ => false)
  (fun _ _ => false)
  (false)
  (fun _ _ _ _ _ => false)
  (fun _ _ _ _ => false)
  (fun _ _ _ _ _ => false)
  (false)
  (fun _ => false)
  (false)
  (fun _ _ _ _ _ => false)
  (fun _ _ => false)
  (fun _ _ => false)
  (false)
  (fun _ _ _ => false)
  ⟨⟩ (fun _ _ _ _ => ⟨⟩) v
def AAJ (v : V) : Bool :=
 V.rec (motive_1 := fun _ => Bool) (motive_2 := fun _ => PUnit)
  (false)
  (fun _ _ _ => false)
  (fun _ => false)
  (fun _ _ => false)
  (false)
  (fun _ _ => false)
  (fun _ _ => false)
  (true)
  (fun _ _ _ _ _ => false)
  (fun _ _ _ _ => false)
  (fun _ _ _ _ _ => false)
  (false)
  (fun _ => false)
  (false)
  (fun _ _ _ _ _ => false)
  (fun _ _ => false)
  (fun _ _ => false)
  (false)
  (fun _ _ _ => false)
  ⟨⟩ (fun _ _ _ _ => ⟨⟩) v
def zI (v : V) : Bool :=
 V.rec (motive_1 := fun _ => Bool) (motive_2 := fun _ => PUnit)
  (false)
  (fun _ _ _ => false)
  (fun _ => false)
  (fun _ _ => false)
  (false)
  (fun _ _ => false)
  (fun _ _ => false)
  (false)
  (fun _ _ _ _ _ => false)
  (fun _ _ _ _ => false)
  (fun _ _ _ _ _ => false)
  (true)
  (fun _ => false)
  (false)
  (fun _ _ _ _ _ => false)
  (fun _ _ => false)
  (fun _ _ => false)
  (false)
  (fun _ _ _ => false)
  ⟨⟩ (fun _ _ _ _ => ⟨⟩) v
def AAy (v : V) : Bool :=
 V.rec (motive_1 := fun _ => Bool) (motive_2 := fun _ => PUnit)
  (false)
  (fun _ _ _ => false)
  (fun _ => false)
  (fun _ _ => false)
  (false)
  (fun _ _ => false)
  (fun _ _ => false)
  (false)
  (fun _ _ _ _ _ => false)
  (fun _ _ _ _ => false)
  (fun _ _ _ _ _ => false)
  (false)
  (fun _ => false)
  (true)
  (fun _ _ _ _ _ => false)
  (fun _ _ => false)
  (fun _ _ => false)
  (false)
  (fun _ _ _ => false)
  ⟨⟩ (fun _ _ _ _ => ⟨⟩) v
def AHL (v : V) : (Nat) -> (Nat) -> Bool :=
 V.rec (motive_1 := fun _ => (Nat) -> (Nat) -> Bool) (motive_2 := fun _ => PUnit)
  (fun _ _ => false)
  (fun _ _ _ _ _ => false)
  (fun _ _ _ => false)
  (fun _ _ _ _ => false)
  (fun _ _ => false)
  (fun a b l m => band (Nat.beq l a) (Nat.beq m b))
  (fun _ _ _ _ => false)
  (fun _ _ => false)
  (fun _ _ _ _ _ _ _ => false)
  (fun _ _ _ _ _ _ => false)
  (fun _ _ _ _ _ _ _ => false)
  (fun _ _ => false)
  (fun _ _ _ => false)
  (fun _ _ => false)
  (fun _ _ _ _ _ _ _ => false)
  (fun _ _ _ _ => false)
  (fun _ _ _ _ => false)
  (fun _ _ => false)
  (fun _ _ _ _ _ => false)
  ⟨⟩ (fun _ _ _ _ => ⟨⟩) v
def ACz (v : V) : (Nat) -> (Nat) -> Bool :=
 V.rec (motive_1 := fun _ => (Nat) -> (Nat) -> Bool) (motive_2 := fun _ => PUnit)
  (fun _ _ => false)
  (fun _ _ _ _ _ => false)
  (fun _ _ _ => false)
  (fun _ _ _ _ => false)
  (fun _ _ => false)
  (fun _ _ _ _ => false)
  (fun a b l m => band (Nat.beq l a) (Nat.beq m b))
  (fun _ _ => false)
  (fun _ _ _ _ _ _ _ => false)
  (fun _ _ _ _ _ _ => false)
  (fun _ _ _ _ _ _ _ => false)
  (fun _ _ => false)
  (fun _ _ _ => false)
  (fun _ _ => false)
  (fun _ _ _ _ _ _ _ => false)
  (fun _ _ _ _ => false)
  (fun _ _ _ _ => false)
  (fun _ _ => false)
  (fun _ _ _ _ _ => false)
  ⟨⟩ (fun _ _ _ _ => ⟨⟩) v
def AID (v : V) : (Nat) -> Bool :=
 V.rec (motive_1 := fun _ => (Nat) -> Bool) (motive_2 := fun _ => PUnit)
  (fun _ => false)
  (fun _ _ _ _ => false)
  (fun _ _ => false)
  (fun _ _ _ => false)
  (fun _ => false)
  (fun _ _ _ => false)
  (fun _ _ _ => false)
  (fun _ => false)
  (fun _ _ _ _ _ _ => false)
  (fun _ _ _ _ _ => false)
  (fun _ _ _ _ _ _ => false)
  (fun _ => false)
  (fun a l => Nat.beq l a)
  (fun _ => false)
  (fun _ _ _ _ _ _ => false)
  (fun _ _ _ => false)
  (fun _ _ _ => false)
  (fun _ => false)
  (fun _ _ _ _ => false)
  ⟨⟩ (fun _ _ _ _ => ⟨⟩) v
def AJK (v : V) : (Nat) -> (Nat) -> (Nat) -> (Nat) -> (Nat) -> Bool :=
 V.rec (motive_1 := fun _ => (Nat) -> (Nat) -> (Nat) -> (Nat) -> (Nat) -> Bool) (motive_2 := fun _ => PUnit)
  (fun _ _ _ _ _ => false)
  (fun _ _ _ _ _ _ _ _ => false)
  (fun _ _ _ _ _ _ => false)
  (fun _ _ _ _ _ _ _ => false)
  (fun _ _ _ _ _ => false)
  (fun _ _ _ _ _ _ _ => false)
  (fun _ _ _ _ _ _ _ => false)
  (fun _ _ _ _ _ => false)
  (fun a b c d e i j k l m => band (Nat.beq i a) (band (Nat.beq j b) (band (Nat.beq k c) (band (Nat.beq l d) (Nat.beq m e)))))
  (fun _ _ _ _ _ _ _ _ _ => false)
  (fun _ _ _ _ _ _ _ _ _ _ => false)
  (fun _ _ _ _ _ => false)
  (fun _ _ _ _ _ _ => false)
  (fun _ _ _ _ _ => false)
  (fun _ _ _ _ _ _ _ _ _ _ => false)
  (fun _ _ _ _ _ _ _ => false)
  (fun _ _ _ _ _ _ _ => false)
  (fun _ _ _ _ _ => false)
  (fun _ _ _ _ _ _ _ _ => false)
  ⟨⟩ (fun _ _ _ _ => ⟨⟩) v
def AEH (v : V) : (Nat) -> (Nat) -> (Nat) -> (Nat) -> Bool :=
 V.rec (motive_1 := fun _ => (Nat) -> (Nat) -> (Nat) -> (Nat) -> Bool) (motive_2 := fun _ => PUnit)
  (fun _ _ _ _ => false)
  (fun _ _ _ _ _ _ _ => false)
  (fun _ _ _ _ _ => false)
  (fun _ _ _ _ _ _ => false)
  (fun _ _ _ _ => false)
  (fun _ _ _ _ _ _ => false)
  (fun _ _ _ _ _ _ => false)
  (fun _ _ _ _ => false)
  (fun _ _ _ _ _ _ _ _ _ => false)
  (fun a b c d i j k l => band (Nat.beq i a) (band (Nat.beq j b) (band (Nat.beq k c) (Nat.beq l d))))
  (fun _ _ _ _ _ _ _ _ _ => false)
  (fun _ _ _ _ => false)
  (fun _ _ _ _ _ => false)
  (fun _ _ _ _ => false)
  (fun _ _ _ _ _ _ _ _ _ => false)
  (fun _ _ _ _ _ _ => false)
  (fun _ _ _ _ _ _ => false)
  (fun _ _ _ _ => false)
  (fun _ _ _ _ _ _ _ => false)
  ⟨⟩ (fun _ _ _ _ => ⟨⟩) v
def AG1 (v : V) : (Nat) -> (Nat) -> (Nat) -> (Nat) -> (Nat) -> Bool :=
 V.rec (motive_1 := fun _ => (Nat) -> (Nat) -> (Nat) -> (Nat) -> (Nat) -> Bool) (motive_2 := fun _ => PUnit)
  (fun _ _ _ _ _ => false)
  (fun _ _ _ _ _ _ _ _ => false)
  (fun _ _ _ _ _ _ => false)
  (fun _ _ _ _ _ _ _ => false)
  (fun _ _ _ _ _ => false)
  (fun _ _ _ _ _ _ _ => false)
  (fun _ _ _ _ _ _ _ => false)
  (fun _ _ _ _ _ => false)
  (fun _ _ _ _ _ _ _ _ _ _ => false)
  (fun _ _ _ _ _ _ _ _ _ => false)
  (fun a b c d e i j k l m => band (Nat.beq i a) (band (Nat.beq j b) (band (Nat.beq k c) (band (Nat.beq l d) (Nat.beq m e)))))
  (fun _ _ _ _ _ => false)
  (fun _ _ _ _ _ _ => false)
  (fun _ _ _ _ _ => false)
  (fun _ _ _ _ _ _ _ _ _ _ => false)
  (fun _ _ _ _ _ _ _ => false)
  (fun _ _ _ _ _ _ _ => false)
  (fun _ _ _ _ _ => false)
  (fun _ _ _ _ _ _ _ _ => false)
  ⟨⟩ (fun _ _ _ _ => ⟨⟩) v
def SI (v : V) : (V) -> Bool :=
 V.rec (motive_1 := fun _ => (V) -> Bool) (motive_2 := fun _ => PUnit)
  (fun _ => false)
  (fun a b c y => AB1 y a b c)
  (fun a y => uz y a)
  (fun a b y => AGa y a b)
  (fun y => zK y)
  (fun a b y => AHL y a b)
  (fun a b y => ACz y a b)
  (fun y => AAJ y)
  (fun a b c d e y => AJK y a b c d e)
  (fun a b c d y => AEH y a b c d)
  (fun a b c d e y => AG1 y a b c d e)
  (fun y => zI y)
  (fun a y => AID y a)
  (fun y => AAy y)
  (fun _ _ _ _ _ _ => false)
  (fun _ _ _ => false)
  (fun _ _ _ => false)
  (fun _ => false)
  (fun _ _ _ _ => false)
  ⟨⟩ (fun _ _ _ _ => ⟨⟩) v
def vU (a : List V) : List V -> Bool :=
 List.rec (motive := fun _ => List V -> Bool) (fun b => List.rec (motive := fun _ => Bool) true (fun _ _ _ => false) b)
  (fun x _ g b => List.rec (motive := fun _ => Bool) false (fun y ys _ => band (SI x y) (g ys)) b) a
def AK2 (v : V) : (LV) -> Bool :=
 V.rec (motive_1 := fun _ => (LV) -> Bool) (motive_2 := fun _ => PUnit)
  (fun _ => false)
  (fun _ _ _ _ => false)
  (fun _ _ => false)
  (fun _ _ _ => false)
  (fun _ => false)
  (fun _ _ _ => false)
  (fun _ _ _ => false)
  (fun _ => false)
  (fun _ _ _ _ _ _ => false)
  (fun _ _ _ _ _ => false)
  (fun _ _ _ _ _ _ => false)
  (fun _ => false)
  (fun _ _ => false)
  (fun _ => false)
  (fun _ _ _ _ _ _ => false)
  (fun a _ l => vU l a)
  (fun _ _ _ => false)
  (fun _ => false)
  (fun _ _ _ _ => false)
  ⟨⟩ (fun _ _ _ _ => ⟨⟩) v
def AK0 (v : V) : (LV) -> Bool :=
 V.rec (motive_1 := fun _ => (LV) -> Bool) (motive_2 := fun _ => PUnit)
  (fun _ => false)
  (fun _ _ _ _ => false)
  (fun _ _ => false)
  (fun _ _ _ => false)
  (fun _ => false)
  (fun _ _ _ => false)
  (fun _ _ _ => false)
  (fun _ => false)
  (fun _ _ _ _ _ _ => false)
  (fun _ _ _ _ _ => false)
  (fun _ _ _ _ _ _ => false)
  (fun _ => false)
  (fun _ _ => false)
  (fun _ => false)
  (fun _ _ _ _ _ _ => false)
  (fun _ _ _ => false)
  (fun a _ l => vU l a)
  (fun _ => false)
  (fun _ _ _ _ => false)
  ⟨⟩ (fun _ _ _ _ => ⟨⟩) v
def ABS (v : V) : Bool :=
 V.rec (motive_1 := fun _ => Bool) (motive_2 := fun _ => PUnit)
  (true)
  (fun _ _ _ => false)
  (fun _ => false)
  (fun _ _ => false)
  (false)
  (fun _ _ => false)
  (fun _ _ => false)
  (false)
  (fun _ _ _ _ _ => false)
  (fun _ _ _ _ => false)
  (fun _ _ _ _ _ => false)
  (false)
  (fun _ => false)
  (false)
  (fun _ _ _ _ _ => false)
  (fun _ _ => false)
  (fun _ _ => false)
  (false)
  (fun _ _ _ => false)
  ⟨⟩ (fun _ _ _ _ => ⟨⟩) v
def GX (v : V) : (V) -> Bool :=
 V.rec (motive_1 := fun _ => (V) -> Bool) (motive_2 := fun _ => PUnit)
  (fun y => ABS y)
  (fun a b c y => AB1 y a b c)
  (fun a y => uz y a)
  (fun a b y => AGa y a b)
  (fun y => zK y)
  (fun a b y => AHL y a b)
  (fun a b y => ACz y a b)
  (fun y => AAJ y)
  (fun a b c d e y => AJK y a b c d e)
  (fun a b c d y => AEH y a b c d)
  (fun a b c d e y => AG1 y a b c d e)
  (fun y => zI y)
  (fun a y => AID y a)
  (fun y => AAy y)
  (fun _ _ _ _ _ _ => false)
  (fun a _ y => AK2 y a)
  (fun a _ y => AK0 y a)
  (fun _ => false)
  (fun _ _ _ _ => false)
  ⟨⟩ (fun _ _ _ _ => ⟨⟩) v
inductive AI where
 | op (o : jJ)
 | re (d : P2) (g : Gd) (o : AN)
inductive AC where
 | skip
 | ops (l : List jJ)
 | reg (l : List AI)
 | seq (a b : AC)
 | cond (x : X) (a b : AC)
 | block (id : Nat) (c : AC)
 | loop (c : AC)
 | exit (id : Nat)
 | ret
def Np (l : List jJ) : o9 :=
 List.rec (motive := fun _ => o9) (fun _ _ R H n k => k R H n) (fun o _ g G call R H n k => o.ex G call R H n fun R H n => g G call R H n k) l
abbrev ReT := AL -> RS -> Heap -> P2 -> AN -> Prop -> Prop
def AOz : ReT := fun G R H d o k => AP (o.ev G R H) fun v => Ko (GX v (KI (T.C9 d R.rg))) k
def AQD (x : X) (b : Bool) : ReT := fun G R H d o k => ZV (x.ev R) b (AP (o.ev G R H) fun v => Ko (GX v (KI (T.C9 d R.rg))) k) k
def ALR (g : Gd) : ReT := Gd.rec (motive := fun _ => ReT) AOz AQD g
def AI.ex (i : AI) : o9 := AI.rec (motive := fun _ => o9) (fun o => o.ex) (fun d g o G _ R H n k => ALR g G R H d o (k R H n)) i
def BQ (l : List AI) : o9 :=
 List.rec (motive := fun _ => o9) (fun _ _ R H n k => k R H n) (fun i _ g G call R H n k => i.ex G call R H n fun R H n => g G call R H n k) l
abbrev KX := Nat -> K
abbrev M := AL -> AV -> Nat -> Gv -> Heap -> Nat -> K -> KX -> K -> Prop
def AHe : M := fun _ _ _ R H n k _ _ => k R H n
def AJJ (l : List jJ) : M := fun G call _ R H n k _ _ => Np l G call (.mk [] R) H n fun E H n => k E.rg H n
def AKD (l : List AI) : M := fun G call _ R H n k _ _ => BQ l G call (.mk [] R) H n fun E H n => k E.rg H n
def AIR (_ _ : AC) (a b : M) : M := fun G call lf R H n k x r => a G call lf R H n (fun R H n => b G call lf R H n k x r) x r
def ACf (c : X) (_ _ : AC) (a b : M) : M := fun G call lf R H n k x r => Ad (c.ev (.mk [] R)) true (a G call lf R H n k x r) (b G call lf R H n k x r)
def FH (id : Nat) (k : K) (x : KX) : KX := fun i R H n => Bool.rec (motive := fun _ => Prop -> Prop -> Prop) (fun a _ => a) (fun _ b => b) (Nat.beq i id) (x i R H n) (k R H n)
def wG (id : Nat) (_ : AC) (a : M) : M := fun G call lf R H n k x r => a G call lf R H n k (FH id k x) r
def TJ (a : M) (G : AL) (call : AV) (lf0 lf : Nat) : Gv -> Heap -> Nat -> KX -> K -> Prop :=
 Nat.rec (motive := fun _ => Gv -> Heap -> Nat -> KX -> K -> Prop) (fun _ _ _ _ _ => False) (fun _ g R H n x r => a G call lf0 R H n (fun R H n => g R H n x r) x r) lf
def AOI (_ : AC) (a : M) : M := fun G call lf R H n _ x r => TJ a G call lf lf R H n x r
def AHT (id : Nat) : M := fun _ _ _ R H n _ x _ => x id R H n
def ALJ : M := fun _ _ _ R H n _ _ r => r R H n
def AC.ex (c : AC) : M := AC.rec (motive := fun _ => M) AHe AJJ AKD AIR ACf wG AOI AHT ALJ c
inductive AR where
 | tmp (p : P2) | cell1 (p : P2) | celln (p : P2) (n : Nat)
inductive AF where
 | mk (np : Nat) (code : AC) (res : List AR) (dp : aW) (dg : Nat)
def AR.get (r : AR) : AL -> Gv -> Heap -> Option V :=
 AR.rec (motive := fun _ => AL -> Gv -> Heap -> Option V) (fun p _ R _ => some (KI (T.C9 p R))) (fun p G R H => QG (fF (KI (T.C9 p R)) G H 1) fun L => nth L 0)
  (fun p n G R H => QG (fF (KI (T.C9 p R)) G H n) fun L => some (.agg L)) r
def oO (l : List AR) : AL -> Gv -> Heap -> Option LV :=
 List.rec (motive := fun _ => AL -> Gv -> Heap -> Option LV) (fun _ _ _ => some []) (fun r _ g G R H => A8 (r.get G R H) fun v => A8 (g G R H) fun vs => some (v :: vs)) l
def Kr (l : List V) : V := List.rec (motive := fun _ => V) (V.II []) (fun v vs _ => List.rec (motive := fun _ => V) v (fun w ws _ => V.II (v :: w :: ws)) vs) l
def Xq (args : List V) : Nat -> Gv -> Gv :=
 List.rec (motive := fun _ => Nat -> Gv -> Gv) (fun _ R => R) (fun v _ g i R => g (Nat.succ i) (T.set R i v)) args
def QN (dg : Nat) (l : List V) : AV -> Heap -> Nat -> (Heap -> Nat -> Prop) -> Prop :=
 List.rec (motive := fun _ => AV -> Heap -> Nat -> (Heap -> Nat -> Prop) -> Prop) (fun _ H n k => k H n)
  (fun v _ g call H n k => V.Tz v fun f a c => Ko (Nat.beq f dg) (call f (cat a c) H n fun _ H n => g call H n k)) l
def xB (res : List AR) (G : AL) (k : KV) : K := fun R H n => Gp (oO res G R H) fun l => k (Kr l) H n
def Gz (res : List AR) (dg : Nat) (d : aW) : AL -> AV -> KV -> K :=
 aW.rec (motive := fun _ => AL -> AV -> KV -> K) (fun G _ k => xB res G k) (fun p G call k R H n => QN dg (ACi (KI (T.C9 p R))) call H n fun H n => xB res G k R H n) (fun G _ k => xB res G k) d
def noX : KX := fun _ _ _ _ => False
def eF (f : AF) : AL -> AV -> Nat -> List V -> Heap -> Nat -> KV -> Prop :=
 AF.rec (motive := fun _ => AL -> AV -> Nat -> List V -> Heap -> Nat -> KV -> Prop) (fun np code res d dg G call lf args H n k => Ko (Nat.beq (len args) np) (code.ex G call lf (Xq args 0 .e) H n (Gz res dg d G call k) noX (Gz res dg d G call k))) f
def run (F : T AF) (G : AL) (lf : Nat) (fuel : Nat) : AV :=
 Nat.rec (motive := fun _ => AV) (fun _ _ _ _ _ => False) (fun _ call f args H n k => Gp (T.get F f) fun af => eF af G call lf args H n k) fuel
end Go.Ba
