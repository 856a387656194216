/- Part of a proof: texts En1 En2 of the engine and what is proved with it; nothing is assumed. -/
import Derived.Calls
import Derived.Defers
import Derived.Orders
import Derived.KernelRfl
import Derived.Laws.Entries
set_option linter.unusedVariables false
set_option linter.unusedSimpArgs false
namespace Go.Eng
inductive P2 where
 | h | z (p : P2) | o (p : P2)
deriving DecidableEq
inductive T (α : Type) where
 | e | n (v : Option α) (l r : T α)
noncomputable def T.val {α : Type} (t : T α) : Option α := T.rec none (fun v _ _ _ _ => v) t
noncomputable def T.left {α : Type} (t : T α) : T α := T.rec .e (fun _ l _ _ _ => l) t
noncomputable def T.right {α : Type} (t : T α) : T α := T.rec .e (fun _ _ r _ _ => r) t
noncomputable def T.DU {α : Type} (p : P2) : T α -> Option α :=
 P2.rec (motive := fun _ => T α -> Option α) T.val (fun _ g t => g t.left) (fun _ g t => g t.right) p
noncomputable def T.Iu {α : Type} (x : α) (p : P2) : T α -> T α :=
 P2.rec (motive := fun _ => T α -> T α) (fun t => .n (some x) t.left t.right)
  (fun _ g t => .n t.val (g t.left) t.right) (fun _ g t => .n t.val t.left (g t.right)) p
noncomputable def AFP (f : Nat) : Nat -> P2 :=
 Nat.rec (motive := fun _ => Nat -> P2) (fun _ => .h)
  (fun _ g k => Nat.rec (motive := fun _ => P2) .h
   (fun m _ => Bool.rec (P2.o (g (Nat.div m 2))) (P2.z (g (Nat.div m 2))) (Nat.beq (Nat.mod m 2) 0)) k) f
noncomputable def MI (k : Nat) : P2 := AFP (Nat.succ k) k
noncomputable def T.get {α : Type} (t : T α) (k : Nat) : Option α := T.DU (MI k) t
noncomputable def T.set {α : Type} (t : T α) (k : Nat) (x : α) : T α := T.Iu x (MI k) t
inductive V where
 | undef
 | int (k : IntKind) (n : Int) (s : Nat)
 | bool (b : Bool)
 | str (len code : Nat)
 | ABs | ptr (id off : Nat) | gptr (b off : Nat)
 | Ae | sl (id off len cap esz : Nat) | Nr (id off len esz : Nat) | rsl (b off len cap esz : Nat)
 | AId | map (id : Nat)
 | AJJ | fn (f : Nat) (first caps : List V)
 | agg (cs : List V)
 | Gh (vs : List V)
 | AKO | iface (t : Nat) (v : V)
inductive OD where
 | arr (esz cnt : Nat) (c : T (List V))
 | map (es : List (V × V × Nat)) (clock : Nat)
 | dead
abbrev Heap := T OD
abbrev FY := T V
abbrev AP := Nat -> Nat -> Nat -> Option (List V)
inductive X where
 | r (p : P2) | c (v : V) | s (i : Nat)
noncomputable def KJ (o : Option V) : V := Option.rec V.undef (fun v => v) o
noncomputable def AG0 (l : List V) : Nat -> V :=
 List.rec (motive := fun _ => Nat -> V) (fun _ => .undef) (fun x _ g i => Nat.rec (motive := fun _ => V) x (fun i _ => g i) i) l
inductive RS where
 | mk (L : List V) (R : FY)
noncomputable def RS.st (E : RS) : List V := RS.rec (fun L _ => L) E
noncomputable def RS.rg (E : RS) : FY := RS.rec (fun _ R => R) E
noncomputable def X.ev (x : X) : RS -> V := X.rec (motive := fun _ => RS -> V) (fun p E => KJ (T.DU p E.rg)) (fun v _ => v) (fun i E => AG0 E.st i) x
noncomputable def V.FH (v : V) : (IntKind -> Int -> Nat -> Option V) -> Option V :=
 V.rec (motive_1 := fun _ => (IntKind -> Int -> Nat -> Option V) -> Option V) (motive_2 := fun _ => PUnit)
  (fun _ => none)
  (fun a b c f => f a b c)
  (fun _ _ => none)
  (fun _ _ _ => none)
  (fun _ => none)
  (fun _ _ _ => none)
  (fun _ _ _ => none)
  (fun _ => none)
  (fun _ _ _ _ _ _ => none)
  (fun _ _ _ _ _ => none)
  (fun _ _ _ _ _ _ => none)
  (fun _ => none)
  (fun _ _ => none)
  (fun _ => none)
  (fun _ _ _ _ _ _ => none)
  (fun _ _ _ => none)
  (fun _ _ _ => none)
  (fun _ => none)
  (fun _ _ _ _ => none)
  ⟨⟩ (fun _ _ _ _ => ⟨⟩) v
noncomputable def V.aP (v : V) : (Bool -> Option V) -> Option V :=
 V.rec (motive_1 := fun _ => (Bool -> Option V) -> Option V) (motive_2 := fun _ => PUnit)
  (fun _ => none)
  (fun _ _ _ _ => none)
  (fun a f => f a)
  (fun _ _ _ => none)
  (fun _ => none)
  (fun _ _ _ => none)
  (fun _ _ _ => none)
  (fun _ => none)
  (fun _ _ _ _ _ _ => none)
  (fun _ _ _ _ _ => none)
  (fun _ _ _ _ _ _ => none)
  (fun _ => none)
  (fun _ _ => none)
  (fun _ => none)
  (fun _ _ _ _ _ _ => none)
  (fun _ _ _ => none)
  (fun _ _ _ => none)
  (fun _ => none)
  (fun _ _ _ _ => none)
  ⟨⟩ (fun _ _ _ _ => ⟨⟩) v
noncomputable def V.yc (v : V) : (Bool -> Prop) -> Prop :=
 V.rec (motive_1 := fun _ => (Bool -> Prop) -> Prop) (motive_2 := fun _ => PUnit)
  (fun _ => False)
  (fun _ _ _ _ => False)
  (fun a f => f a)
  (fun _ _ _ => False)
  (fun _ => False)
  (fun _ _ _ => False)
  (fun _ _ _ => False)
  (fun _ => False)
  (fun _ _ _ _ _ _ => False)
  (fun _ _ _ _ _ => False)
  (fun _ _ _ _ _ _ => False)
  (fun _ => False)
  (fun _ _ => False)
  (fun _ => False)
  (fun _ _ _ _ _ _ => False)
  (fun _ _ _ => False)
  (fun _ _ _ => False)
  (fun _ => False)
  (fun _ _ _ _ => False)
  ⟨⟩ (fun _ _ _ _ => ⟨⟩) v
noncomputable def V.Ou (v : V) : (Nat -> Nat -> Option V) -> Option V :=
 V.rec (motive_1 := fun _ => (Nat -> Nat -> Option V) -> Option V) (motive_2 := fun _ => PUnit)
  (fun _ => none)
  (fun _ _ _ _ => none)
  (fun _ _ => none)
  (fun a b f => f a b)
  (fun _ => none)
  (fun _ _ _ => none)
  (fun _ _ _ => none)
  (fun _ => none)
  (fun _ _ _ _ _ _ => none)
  (fun _ _ _ _ _ => none)
  (fun _ _ _ _ _ _ => none)
  (fun _ => none)
  (fun _ _ => none)
  (fun _ => none)
  (fun _ _ _ _ _ _ => none)
  (fun _ _ _ => none)
  (fun _ _ _ => none)
  (fun _ => none)
  (fun _ _ _ _ => none)
  ⟨⟩ (fun _ _ _ _ => ⟨⟩) v
noncomputable def V.aX (v : V) : (List V -> Option V) -> Option V :=
 V.rec (motive_1 := fun _ => (List V -> Option V) -> Option V) (motive_2 := fun _ => PUnit)
  (fun _ => none)
  (fun _ _ _ _ => none)
  (fun _ _ => none)
  (fun _ _ _ => none)
  (fun _ => none)
  (fun _ _ _ => none)
  (fun _ _ _ => none)
  (fun _ => none)
  (fun _ _ _ _ _ _ => none)
  (fun _ _ _ _ _ => none)
  (fun _ _ _ _ _ _ => none)
  (fun _ => none)
  (fun _ _ => none)
  (fun _ => none)
  (fun _ _ _ _ _ _ => none)
  (fun a _ f => f a)
  (fun _ _ _ => none)
  (fun _ => none)
  (fun _ _ _ _ => none)
  ⟨⟩ (fun _ _ _ _ => ⟨⟩) v
noncomputable def V.ABl (v : V) : (List V -> Option V) -> Option V :=
 V.rec (motive_1 := fun _ => (List V -> Option V) -> Option V) (motive_2 := fun _ => PUnit)
  (fun _ => none)
  (fun _ _ _ _ => none)
  (fun _ _ => none)
  (fun _ _ _ => none)
  (fun _ => none)
  (fun _ _ _ => none)
  (fun _ _ _ => none)
  (fun _ => none)
  (fun _ _ _ _ _ _ => none)
  (fun _ _ _ _ _ => none)
  (fun _ _ _ _ _ _ => none)
  (fun _ => none)
  (fun _ _ => none)
  (fun _ => none)
  (fun _ _ _ _ _ _ => none)
  (fun _ _ _ => none)
  (fun a _ f => f a)
  (fun _ => none)
  (fun _ _ _ _ => none)
  ⟨⟩ (fun _ _ _ _ => ⟨⟩) v
noncomputable def V.xB (v : V) : (Nat -> Nat -> Option V) -> (Nat -> Nat -> Option V) -> Option V :=
 V.rec (motive_1 := fun _ => (Nat -> Nat -> Option V) -> (Nat -> Nat -> Option V) -> Option V) (motive_2 := fun _ => PUnit)
  (fun _ _ => none)
  (fun _ _ _ _ _ => none)
  (fun _ _ _ => none)
  (fun _ _ _ _ => none)
  (fun _ _ => none)
  (fun a b f _ => f a b)
  (fun a b _ g => g a b)
  (fun _ _ => none)
  (fun _ _ _ _ _ _ _ => none)
  (fun _ _ _ _ _ _ => none)
  (fun _ _ _ _ _ _ _ => none)
  (fun _ _ => none)
  (fun _ _ _ => none)
  (fun _ _ => none)
  (fun _ _ _ _ _ _ _ => none)
  (fun _ _ _ _ => none)
  (fun _ _ _ _ => none)
  (fun _ _ => none)
  (fun _ _ _ _ _ => none)
  ⟨⟩ (fun _ _ _ _ => ⟨⟩) v
noncomputable def V.ACs (v : V) : (Option V) -> (Nat -> Option V) -> Option V :=
 V.rec (motive_1 := fun _ => (Option V) -> (Nat -> Option V) -> Option V) (motive_2 := fun _ => PUnit)
  (fun _ _ => none)
  (fun _ _ _ _ _ => none)
  (fun _ _ _ => none)
  (fun _ _ _ _ => none)
  (fun _ _ => none)
  (fun _ _ _ _ => none)
  (fun _ _ _ _ => none)
  (fun _ _ => none)
  (fun _ _ _ _ _ _ _ => none)
  (fun _ _ _ _ _ _ => none)
  (fun _ _ _ _ _ _ _ => none)
  (fun z _ => z)
  (fun a _ f => f a)
  (fun _ _ => none)
  (fun _ _ _ _ _ _ _ => none)
  (fun _ _ _ _ => none)
  (fun _ _ _ _ => none)
  (fun _ _ => none)
  (fun _ _ _ _ _ => none)
  ⟨⟩ (fun _ _ _ _ => ⟨⟩) v
noncomputable def V.AJA (v : V) : (Option V) -> (Nat -> Nat -> Nat -> Nat -> Nat -> Option V) -> (Nat -> Nat -> Nat -> Nat -> Option V) -> (Nat -> Nat -> Nat -> Nat -> Nat -> Option V) -> Option V :=
 V.rec (motive_1 := fun _ => (Option V) -> (Nat -> Nat -> Nat -> Nat -> Nat -> Option V) -> (Nat -> Nat -> Nat -> Nat -> Option V) -> (Nat -> Nat -> Nat -> Nat -> Nat -> Option V) -> Option V) (motive_2 := fun _ => PUnit)
  (fun _ _ _ _ => none)
  (fun _ _ _ _ _ _ _ => none)
  (fun _ _ _ _ _ => none)
  (fun _ _ _ _ _ _ => none)
  (fun _ _ _ _ => none)
  (fun _ _ _ _ _ _ => none)
  (fun _ _ _ _ _ _ => none)
  (fun z _ _ _ => z)
  (fun a b c d e _ f _ _ => f a b c d e)
  (fun a b c d _ _ g _ => g a b c d)
  (fun a b c d e _ _ _ h => h a b c d e)
  (fun _ _ _ _ => none)
  (fun _ _ _ _ _ => none)
  (fun _ _ _ _ => none)
  (fun _ _ _ _ _ _ _ _ _ => none)
  (fun _ _ _ _ _ _ => none)
  (fun _ _ _ _ _ _ => none)
  (fun _ _ _ _ => none)
  (fun _ _ _ _ _ _ _ => none)
  ⟨⟩ (fun _ _ _ _ => ⟨⟩) v
noncomputable def BO (v : V) : List V :=
 V.rec (motive_1 := fun _ => List V) (motive_2 := fun _ => PUnit)
  ([v])
  (fun _ _ _ => [v])
  (fun _ => [v])
  (fun _ _ => [v])
  ([v])
  (fun _ _ => [v])
  (fun _ _ => [v])
  ([v])
  (fun _ _ _ _ _ => [v])
  (fun _ _ _ _ => [v])
  (fun _ _ _ _ _ => [v])
  ([v])
  (fun _ => [v])
  ([v])
  (fun _ _ _ _ _ => [v])
  (fun a _ => a)
  (fun _ _ => [v])
  ([v])
  (fun _ _ _ => [v])
  ⟨⟩ (fun _ _ _ _ => ⟨⟩) v
noncomputable def isStr (v : V) : Bool :=
 V.rec (motive_1 := fun _ => Bool) (motive_2 := fun _ => PUnit)
  (false)
  (fun _ _ _ => false)
  (fun _ => false)
  (fun _ _ => true)
  (false)
  (fun _ _ => false)
  (fun _ _ => false)
  (false)
  (fun _ _ _ _ _ => false)
  (fun _ _ _ _ => false)
  (fun _ _ _ _ _ => false)
  (false)
  (fun _ => false)
  (false)
  (fun _ _ _ _ _ => false)
  (fun _ _ => false)
  (fun _ _ => false)
  (false)
  (fun _ _ _ => false)
  ⟨⟩ (fun _ _ _ _ => ⟨⟩) v
noncomputable def lenV (v : V) : Option V :=
 V.rec (motive_1 := fun _ => Option V) (motive_2 := fun _ => PUnit)
  (none)
  (fun _ _ _ => none)
  (fun _ => none)
  (fun _ _ => none)
  (none)
  (fun _ _ => none)
  (fun _ _ => none)
  (some (.int .i64 (.ofNat 0) 0))
  (fun _ _ c _ _ => some (.int .i64 (.ofNat c) 0))
  (fun _ _ c _ => some (.int .i64 (.ofNat c) 0))
  (fun _ _ c _ _ => some (.int .i64 (.ofNat c) 0))
  (none)
  (fun _ => none)
  (none)
  (fun _ _ _ _ _ => none)
  (fun _ _ => none)
  (fun _ _ => none)
  (none)
  (fun _ _ _ => none)
  ⟨⟩ (fun _ _ _ _ => ⟨⟩) v
noncomputable def BF (v : V) : Option V :=
 V.rec (motive_1 := fun _ => Option V) (motive_2 := fun _ => PUnit)
  (none)
  (fun _ _ _ => none)
  (fun _ => none)
  (fun _ _ => none)
  (none)
  (fun a b => some (.ptr a b))
  (fun a b => some (.gptr a b))
  (none)
  (fun _ _ _ _ _ => none)
  (fun _ _ _ _ => none)
  (fun _ _ _ _ _ => none)
  (none)
  (fun _ => none)
  (none)
  (fun a b c _ _ => some (.fn a b c))
  (fun _ _ => none)
  (fun _ _ => none)
  (none)
  (fun _ _ _ => none)
  ⟨⟩ (fun _ _ _ _ => ⟨⟩) v
noncomputable def JG (n : Int) : (Int -> Option V) -> Option V := fun f => f n
noncomputable def CX (n : Nat) : (Nat -> Option V) -> Option V :=
 Nat.rec (motive := fun _ => (Nat -> Option V) -> Option V) (fun f => f 0) (fun k _ f => f (Nat.succ k)) n
noncomputable def DN (n : Nat) : (Nat -> Prop) -> Prop :=
 Nat.rec (motive := fun _ => (Nat -> Prop) -> Prop) (fun f => f 0) (fun k _ f => f (Nat.succ k)) n
noncomputable def AQI (k : IntKind) : Nat -> Bool :=
 IntKind.rec (motive := fun _ => Nat -> Bool) (fun m => Nat.blt m 128) (fun m => Nat.blt m 32768) (fun m => Nat.blt m 2147483648) (fun m => Nat.blt m 9223372036854775808)
  (fun m => Nat.blt m 256) (fun m => Nat.blt m 65536) (fun m => Nat.blt m 4294967296) (fun m => Nat.blt m 18446744073709551616) k
noncomputable def AQR (k : IntKind) : Nat -> Bool :=
 IntKind.rec (motive := fun _ => Nat -> Bool) (fun m => Nat.blt m 128) (fun m => Nat.blt m 32768) (fun m => Nat.blt m 2147483648) (fun m => Nat.blt m 9223372036854775808)
  (fun _ => false) (fun _ => false) (fun _ => false) (fun _ => false) k
noncomputable def inr (k : IntKind) (n : Int) : Bool := Int.rec (motive := fun _ => IntKind -> Bool) (fun m k => AQI k m) (fun m k => AQR k m) n k
noncomputable def P7 (k : IntKind) (n : Int) : Int := Bool.rec (k.wrap n) n (inr k n)
noncomputable def ALu (k : IntKind) (n : Int) : Option V := JG (P7 k n) fun m => some (.int k m 0)
noncomputable def mkI (k : IntKind) (n : Int) (s : Nat) : Option V :=
 Nat.rec (motive := fun _ => IntKind -> Int -> Option V) ALu (fun _ _ k n => some (.int k (k.wrap n) 1)) s k n
noncomputable def mkN (k : IntKind) (n : Int) (s : Nat) : Option V :=
 Nat.rec (motive := fun _ => IntKind -> Int -> Option V) (fun k n => JG n fun m => some (.int k m 0)) (fun _ _ k n => some (.int k n 1)) s k n
noncomputable def AKi (a : Nat) (b : Int) : Int := Int.rec (motive := fun _ => Nat -> Int) (fun n m => .ofNat (Nat.add m n)) (fun n m => Int.subNatNat m (Nat.succ n)) b a
noncomputable def ALH (a : Nat) (b : Int) : Int := Int.rec (motive := fun _ => Nat -> Int) (fun n m => Int.subNatNat n (Nat.succ m)) (fun n m => .negSucc (Nat.succ (Nat.add m n))) b a
noncomputable def wI (a b : Int) : Int := Int.rec (motive := fun _ => Int -> Int) AKi ALH a b
noncomputable def ile (a b : Int) : Bool := Int.rec (motive := fun _ => Int -> Bool) (fun m b => Int.rec (motive := fun _ => Nat -> Bool) (fun n m => Nat.ble m n) (fun _ _ => false) b m)
 (fun m b => Int.rec (motive := fun _ => Nat -> Bool) (fun _ _ => true) (fun n m => Nat.ble n m) b m) a b
noncomputable def ilt (a b : Int) : Bool := Int.rec (motive := fun _ => Int -> Bool) (fun m b => Int.rec (motive := fun _ => Nat -> Bool) (fun n m => Nat.blt m n) (fun _ _ => false) b m)
 (fun m b => Int.rec (motive := fun _ => Nat -> Bool) (fun _ _ => true) (fun n m => Nat.blt n m) b m) a b
noncomputable def ieq (a b : Int) : Bool := Int.rec (motive := fun _ => Int -> Bool) (fun m b => Int.rec (motive := fun _ => Nat -> Bool) (fun n m => Nat.beq m n) (fun _ _ => false) b m)
 (fun m b => Int.rec (motive := fun _ => Nat -> Bool) (fun _ _ => false) (fun n m => Nat.beq n m) b m) a b
noncomputable def kno (a : IntKind) : Nat := IntKind.rec 0 1 2 3 4 5 6 7 a
noncomputable def keq (a b : IntKind) : Bool := Nat.beq (kno a) (kno b)
noncomputable def Ub (b : Bool) : Bool := Bool.rec true false b
noncomputable def band (a b : Bool) : Bool := Bool.rec (motive := fun _ => Bool -> Bool) (fun _ => false) (fun b => b) a b
noncomputable def AHr (a b : Bool) : Bool := Bool.rec (motive := fun _ => Bool -> Bool) Ub (fun b => b) a b
noncomputable def mkB (b : Bool) : Option V := Bool.rec (some (.bool false)) (some (.bool true)) b
noncomputable def Aq (b : Bool) : Option V -> Option V := Bool.rec (motive := fun _ => Option V -> Option V) (fun _ => none) (fun o => o) b
noncomputable def nH (b : Bool) (x y : Option V) : Option V := Bool.rec (motive := fun _ => Option V -> Option V -> Option V) (fun _ y => y) (fun x _ => x) b x y
noncomputable def AEs (code i : Nat) : Nat := Nat.mod (Nat.div code (Nat.pow 256 i)) 256
noncomputable def AHp (code l h : Nat) : Nat := Nat.mod (Nat.div code (Nat.pow 256 l)) (Nat.pow 256 (Nat.sub h l))
noncomputable def ALt (l1 c1 c2 : Nat) : Nat := Nat.add c1 (Nat.mul (Nat.pow 256 l1) c2)
noncomputable def AL0 (f : Nat) : Nat -> Nat -> Nat -> Nat -> Bool :=
 Nat.rec (motive := fun _ => Nat -> Nat -> Nat -> Nat -> Bool) (fun _ _ _ _ => false)
  (fun _ g l1 c1 l2 c2 => Nat.rec (motive := fun _ => Bool) false (fun l2' _ => Nat.rec (motive := fun _ => Bool) true (fun l1' _ =>
   Bool.rec (Nat.blt (Nat.mod c1 256) (Nat.mod c2 256)) (g l1' (Nat.div c1 256) l2' (Nat.div c2 256)) (Nat.beq (Nat.mod c1 256) (Nat.mod c2 256))) l1) l2) f
noncomputable def slt (l1 c1 l2 c2 : Nat) : Bool := AL0 (Nat.succ l2) l1 c1 l2 c2
noncomputable def nth {α : Type} (l : List α) : Nat -> Option α :=
 List.rec (motive := fun _ => Nat -> Option α) (fun _ => none) (fun x _ g i => Nat.rec (motive := fun _ => Option α) (some x) (fun i _ => g i) i) l
noncomputable def Y2 {α : Type} (x : α) (l : List α) : Nat -> List α :=
 List.rec (motive := fun _ => Nat -> List α) (fun _ => []) (fun y ys g i => Nat.rec (motive := fun _ => List α) (x :: ys) (fun i _ => y :: g i) i) l
noncomputable def len {α : Type} (l : List α) : Nat := List.rec (motive := fun _ => Nat) 0 (fun _ _ n => Nat.succ n) l
noncomputable def cat {α : Type} (a b : List α) : List α := List.rec (motive := fun _ => List α -> List α) (fun b => b) (fun x _ g b => x :: g b) a b
noncomputable def Tj {α : Type} (n : Nat) : List α -> List α :=
 Nat.rec (motive := fun _ => List α -> List α) (fun _ => []) (fun _ g l => List.rec (motive := fun _ => List α) [] (fun x xs _ => x :: g xs) l) n
noncomputable def Xp {α : Type} (n : Nat) : List α -> List α :=
 Nat.rec (motive := fun _ => List α -> List α) (fun l => l) (fun _ g l => List.rec (motive := fun _ => List α) [] (fun _ xs _ => g xs) l) n
noncomputable def RD (l : List X) : RS -> List V := List.rec (motive := fun _ => RS -> List V) (fun _ => []) (fun x _ g R => x.ev R :: g R) l
noncomputable def ABf (new : List V) (i : Nat) (l : List V) : List V := cat (Tj i l) (cat new (Xp (Nat.add i (len new)) l))
abbrev LV := List V
noncomputable def AKp (o : Option V) (f : V -> Option V) : Option V := Option.rec (motive := fun _ => (V -> Option V) -> Option V) (fun _ => none) (fun v f => f v) o f
noncomputable def LX (o : Option LV) (f : LV -> Option V) : Option V := Option.rec (motive := fun _ => (LV -> Option V) -> Option V) (fun _ => none) (fun v f => f v) o f
noncomputable def FN {α : Type} (o : Option α) (f : α -> Prop) : Prop := Option.rec (motive := fun _ => (α -> Prop) -> Prop) (fun _ => False) (fun v f => f v) o f
noncomputable def AU (o : Option V) (f : V -> Prop) : Prop := Option.rec (motive := fun _ => (V -> Prop) -> Prop) (fun _ => False) (fun v f => f v) o f
noncomputable def BK {α β : Type} (o : Option α) (f : α -> Option β) : Option β := Option.rec (motive := fun _ => (α -> Option β) -> Option β) (fun _ => none) (fun v f => f v) o f
noncomputable def ldC (esz off n : Nat) (L : LV) : Option LV :=
  Bool.rec (motive := fun _ => Option LV)
      (Bool.rec none (some (Tj n (Xp (Nat.mod off esz) L))) (Nat.ble (Nat.add (Nat.mod off esz) n) esz))
      (some L) (band (Nat.beq n esz) (Nat.beq (Nat.mod off esz) 0))
noncomputable def ldB (esz cnt : Nat) (c : T LV) (off n : Nat) : Option LV :=
 BK (Bool.rec none (T.get c (Nat.div off esz)) (Nat.blt (Nat.div off esz) cnt)) (ldC esz off n)
noncomputable def OD.ld (b : OD) : Nat -> Nat -> Option LV :=
 OD.rec (motive := fun _ => Nat -> Nat -> Option LV) ldB (fun _ _ _ _ => none) (fun _ _ => none) b
noncomputable def ZU (H : Heap) (id off n : Nat) : Option LV := Option.rec (motive := fun _ => Nat -> Nat -> Option LV) (fun _ _ => none) OD.ld (T.get H id) off n
noncomputable def lY (v : V) : (AP) -> (Heap) -> (Nat) -> Option LV :=
 V.rec (motive_1 := fun _ => (AP) -> (Heap) -> (Nat) -> Option LV) (motive_2 := fun _ => PUnit)
  (fun _ _ _ => none)
  (fun _ _ _ _ _ _ => none)
  (fun _ _ _ _ => none)
  (fun _ _ _ _ _ => none)
  (fun _ _ _ => none)
  (fun a b _ H n => ZU H a b n)
  (fun a b G _ n => G a b n)
  (fun _ _ _ => none)
  (fun _ _ _ _ _ _ _ _ => none)
  (fun _ _ _ _ _ _ _ => none)
  (fun _ _ _ _ _ _ _ _ => none)
  (fun _ _ _ => none)
  (fun _ _ _ _ => none)
  (fun _ _ _ => none)
  (fun _ _ _ _ _ _ _ _ => none)
  (fun _ _ _ _ _ => none)
  (fun _ _ _ _ _ => none)
  (fun _ _ _ => none)
  (fun _ _ _ _ _ _ => none)
  ⟨⟩ (fun _ _ _ _ => ⟨⟩) v
noncomputable def vX (new : LV) (esz cnt : Nat) (c : T LV) (off n : Nat) (L : LV) : Option OD :=
  Bool.rec (motive := fun _ => Option OD)
      (Bool.rec none (some (.arr esz cnt (T.set c (Nat.div off esz) (ABf new (Nat.mod off esz) L)))) (Nat.ble (Nat.add (Nat.mod off esz) n) esz))
      (some (.arr esz cnt (T.set c (Nat.div off esz) new))) (band (Nat.beq n esz) (Nat.beq (Nat.mod off esz) 0))
noncomputable def stB (esz cnt : Nat) (c : T LV) (off n : Nat) (new : LV) : Option OD :=
 BK (Bool.rec none (T.get c (Nat.div off esz)) (Nat.blt (Nat.div off esz) cnt)) (vX new esz cnt c off n)
noncomputable def OD.st (b : OD) : Nat -> Nat -> LV -> Option OD :=
 OD.rec (motive := fun _ => Nat -> Nat -> LV -> Option OD) stB (fun _ _ _ _ _ => none) (fun _ _ _ => none) b
noncomputable def stH (H : Heap) (id off n : Nat) (new : LV) : Option Heap :=
 BK (Option.rec (motive := fun _ => Nat -> Nat -> LV -> Option OD) (fun _ _ _ => none) OD.st (T.get H id) off n new) fun b => some (T.set H id b)
noncomputable def stP (v : V) : (Heap) -> (Nat) -> (LV) -> Option Heap :=
 V.rec (motive_1 := fun _ => (Heap) -> (Nat) -> (LV) -> Option Heap) (motive_2 := fun _ => PUnit)
  (fun _ _ _ => none)
  (fun _ _ _ _ _ _ => none)
  (fun _ _ _ _ => none)
  (fun _ _ _ _ _ => none)
  (fun _ _ _ => none)
  (fun a b H n new => stH H a b n new)
  (fun _ _ _ _ _ => none)
  (fun _ _ _ => none)
  (fun _ _ _ _ _ _ _ _ => none)
  (fun _ _ _ _ _ _ _ => none)
  (fun _ _ _ _ _ _ _ _ => none)
  (fun _ _ _ => none)
  (fun _ _ _ _ => none)
  (fun _ _ _ => none)
  (fun _ _ _ _ _ _ _ _ => none)
  (fun _ _ _ _ _ => none)
  (fun _ _ _ _ _ => none)
  (fun _ _ _ => none)
  (fun _ _ _ _ _ _ => none)
  ⟨⟩ (fun _ _ _ _ => ⟨⟩) v
noncomputable def AH7 (v : V) : (IntKind) -> (Int) -> (Nat) -> Option Bool :=
 V.rec (motive_1 := fun _ => (IntKind) -> (Int) -> (Nat) -> Option Bool) (motive_2 := fun _ => PUnit)
  (fun _ _ _ => none)
  (fun a b c k n s => Bool.rec (motive := fun _ => Option Bool) none (some (ieq n b)) (band (keq k a) (Nat.beq (Nat.add s c) 0)))
  (fun _ _ _ _ => none)
  (fun _ _ _ _ _ => none)
  (fun _ _ _ => none)
  (fun _ _ _ _ _ => none)
  (fun _ _ _ _ _ => none)
  (fun _ _ _ => none)
  (fun _ _ _ _ _ _ _ _ => none)
  (fun _ _ _ _ _ _ _ => none)
  (fun _ _ _ _ _ _ _ _ => none)
  (fun _ _ _ => none)
  (fun _ _ _ _ => none)
  (fun _ _ _ => none)
  (fun _ _ _ _ _ _ _ _ => none)
  (fun _ _ _ _ _ => none)
  (fun _ _ _ _ _ => none)
  (fun _ _ _ => none)
  (fun _ _ _ _ _ _ => none)
  ⟨⟩ (fun _ _ _ _ => ⟨⟩) v
noncomputable def ADR (v : V) : (Bool) -> Option Bool :=
 V.rec (motive_1 := fun _ => (Bool) -> Option Bool) (motive_2 := fun _ => PUnit)
  (fun _ => none)
  (fun _ _ _ _ => none)
  (fun a x => some (AHr x a))
  (fun _ _ _ => none)
  (fun _ => none)
  (fun _ _ _ => none)
  (fun _ _ _ => none)
  (fun _ => none)
  (fun _ _ _ _ _ _ => none)
  (fun _ _ _ _ _ => none)
  (fun _ _ _ _ _ _ => none)
  (fun _ => none)
  (fun _ _ => none)
  (fun _ => none)
  (fun _ _ _ _ _ _ => none)
  (fun _ _ _ => none)
  (fun _ _ _ => none)
  (fun _ => none)
  (fun _ _ _ _ => none)
  ⟨⟩ (fun _ _ _ _ => ⟨⟩) v
noncomputable def eqStr (v : V) : (Nat) -> (Nat) -> Option Bool :=
 V.rec (motive_1 := fun _ => (Nat) -> (Nat) -> Option Bool) (motive_2 := fun _ => PUnit)
  (fun _ _ => none)
  (fun _ _ _ _ _ => none)
  (fun _ _ _ => none)
  (fun a b l d => some (band (Nat.beq l a) (Nat.beq d b)))
  (fun _ _ => none)
  (fun _ _ _ _ => none)
  (fun _ _ _ _ => none)
  (fun _ _ => none)
  (fun _ _ _ _ _ _ _ => none)
  (fun _ _ _ _ _ _ => none)
  (fun _ _ _ _ _ _ _ => none)
  (fun _ _ => none)
  (fun _ _ _ => none)
  (fun _ _ => none)
  (fun _ _ _ _ _ _ _ => none)
  (fun _ _ _ _ => none)
  (fun _ _ _ _ => none)
  (fun _ _ => none)
  (fun _ _ _ _ _ => none)
  ⟨⟩ (fun _ _ _ _ => ⟨⟩) v
noncomputable def AHi (v : V) : Option Bool :=
 V.rec (motive_1 := fun _ => Option Bool) (motive_2 := fun _ => PUnit)
  (none)
  (fun _ _ _ => none)
  (fun _ => none)
  (fun _ _ => none)
  (some true)
  (fun _ _ => some false)
  (fun _ _ => some false)
  (none)
  (fun _ _ _ _ _ => none)
  (fun _ _ _ _ => none)
  (fun _ _ _ _ _ => none)
  (none)
  (fun _ => none)
  (none)
  (fun _ _ _ _ _ => none)
  (fun _ _ => none)
  (fun _ _ => none)
  (none)
  (fun _ _ _ => none)
  ⟨⟩ (fun _ _ _ _ => ⟨⟩) v
noncomputable def AK8 (v : V) : (Nat) -> (Nat) -> Option Bool :=
 V.rec (motive_1 := fun _ => (Nat) -> (Nat) -> Option Bool) (motive_2 := fun _ => PUnit)
  (fun _ _ => none)
  (fun _ _ _ _ _ => none)
  (fun _ _ _ => none)
  (fun _ _ _ _ => none)
  (fun _ _ => some false)
  (fun a b i o => Bool.rec none (some (Nat.beq o b)) (Nat.beq i a))
  (fun _ _ _ _ => none)
  (fun _ _ => none)
  (fun _ _ _ _ _ _ _ => none)
  (fun _ _ _ _ _ _ => none)
  (fun _ _ _ _ _ _ _ => none)
  (fun _ _ => none)
  (fun _ _ _ => none)
  (fun _ _ => none)
  (fun _ _ _ _ _ _ _ => none)
  (fun _ _ _ _ => none)
  (fun _ _ _ _ => none)
  (fun _ _ => none)
  (fun _ _ _ _ _ => none)
  ⟨⟩ (fun _ _ _ _ => ⟨⟩) v
noncomputable def AFm (v : V) : Option Bool :=
 V.rec (motive_1 := fun _ => Option Bool) (motive_2 := fun _ => PUnit)
  (none)
  (fun _ _ _ => none)
  (fun _ => none)
  (fun _ _ => none)
  (some false)
  (fun _ _ => none)
  (fun _ _ => none)
  (none)
  (fun _ _ _ _ _ => none)
  (fun _ _ _ _ => none)
  (fun _ _ _ _ _ => none)
  (none)
  (fun _ => none)
  (none)
  (fun _ _ _ _ _ => none)
  (fun _ _ => none)
  (fun _ _ => none)
  (none)
  (fun _ _ _ => none)
  ⟨⟩ (fun _ _ _ _ => ⟨⟩) v
noncomputable def ACW (v : V) : (V) -> Option Bool :=
 V.rec (motive_1 := fun _ => (V) -> Option Bool) (motive_2 := fun _ => PUnit)
  (fun _ => none)
  (fun a b c y => AH7 y a b c)
  (fun _ _ => none)
  (fun _ _ _ => none)
  (fun _ => none)
  (fun _ _ _ => none)
  (fun _ _ _ => none)
  (fun _ => none)
  (fun _ _ _ _ _ _ => none)
  (fun _ _ _ _ _ => none)
  (fun _ _ _ _ _ _ => none)
  (fun _ => none)
  (fun _ _ => none)
  (fun _ => none)
  (fun _ _ _ _ _ _ => none)
  (fun _ _ _ => none)
  (fun _ _ _ => none)
  (fun _ => none)
  (fun _ _ _ _ => none)
  ⟨⟩ (fun _ _ _ _ => ⟨⟩) v
noncomputable def ACw (v : V) : (V) -> Option Bool :=
 V.rec (motive_1 := fun _ => (V) -> Option Bool) (motive_2 := fun _ => PUnit)
  (fun _ => none)
  (fun _ _ _ _ => none)
  (fun _ _ => none)
  (fun a b y => eqStr y a b)
  (fun _ => none)
  (fun _ _ _ => none)
  (fun _ _ _ => none)
  (fun _ => none)
  (fun _ _ _ _ _ _ => none)
  (fun _ _ _ _ _ => none)
  (fun _ _ _ _ _ _ => none)
  (fun _ => none)
  (fun _ _ => none)
  (fun _ => none)
  (fun _ _ _ _ _ _ => none)
  (fun _ _ _ => none)
  (fun _ _ _ => none)
  (fun _ => none)
  (fun _ _ _ _ => none)
  ⟨⟩ (fun _ _ _ _ => ⟨⟩) v
noncomputable def tV (v : V) : (V) -> Option Bool :=
 V.rec (motive_1 := fun _ => (V) -> Option Bool) (motive_2 := fun _ => PUnit)
  (fun _ => none)
  (fun _ _ _ _ => none)
  (fun a y => ADR y a)
  (fun _ _ _ => none)
  (fun _ => none)
  (fun _ _ _ => none)
  (fun _ _ _ => none)
  (fun _ => none)
  (fun _ _ _ _ _ _ => none)
  (fun _ _ _ _ _ => none)
  (fun _ _ _ _ _ _ => none)
  (fun _ => none)
  (fun _ _ => none)
  (fun _ => none)
  (fun _ _ _ _ _ _ => none)
  (fun _ _ _ => none)
  (fun _ _ _ => none)
  (fun _ => none)
  (fun _ _ _ _ => none)
  ⟨⟩ (fun _ _ _ _ => ⟨⟩) v
noncomputable def AGl (v : V) : (V) -> Option Bool :=
 V.rec (motive_1 := fun _ => (V) -> Option Bool) (motive_2 := fun _ => PUnit)
  (fun _ => none)
  (fun _ _ _ _ => none)
  (fun _ _ => none)
  (fun _ _ _ => none)
  (fun y => AHi y)
  (fun a b y => AK8 y a b)
  (fun _ _ y => AFm y)
  (fun _ => none)
  (fun _ _ _ _ _ _ => none)
  (fun _ _ _ _ _ => none)
  (fun _ _ _ _ _ _ => none)
  (fun _ => none)
  (fun _ _ => none)
  (fun _ => none)
  (fun _ _ _ _ _ _ => none)
  (fun _ _ _ => none)
  (fun _ _ _ => none)
  (fun _ => none)
  (fun _ _ _ _ => none)
  ⟨⟩ (fun _ _ _ _ => ⟨⟩) v
noncomputable def AGv (v : V) : Option Bool :=
 V.rec (motive_1 := fun _ => Option Bool) (motive_2 := fun _ => PUnit)
  (none)
  (fun _ _ _ => none)
  (fun _ => none)
  (fun _ _ => none)
  (none)
  (fun _ _ => none)
  (fun _ _ => none)
  (some true)
  (fun _ _ _ _ _ => some false)
  (fun _ _ _ _ => some false)
  (fun _ _ _ _ _ => some false)
  (none)
  (fun _ => none)
  (none)
  (fun _ _ _ _ _ => none)
  (fun _ _ => none)
  (fun _ _ => none)
  (none)
  (fun _ _ _ => none)
  ⟨⟩ (fun _ _ _ _ => ⟨⟩) v
noncomputable def YV (v : V) : Option Bool :=
 V.rec (motive_1 := fun _ => Option Bool) (motive_2 := fun _ => PUnit)
  (none)
  (fun _ _ _ => none)
  (fun _ => none)
  (fun _ _ => none)
  (none)
  (fun _ _ => none)
  (fun _ _ => none)
  (some false)
  (fun _ _ _ _ _ => none)
  (fun _ _ _ _ => none)
  (fun _ _ _ _ _ => none)
  (none)
  (fun _ => none)
  (none)
  (fun _ _ _ _ _ => none)
  (fun _ _ => none)
  (fun _ _ => none)
  (none)
  (fun _ _ _ => none)
  ⟨⟩ (fun _ _ _ _ => ⟨⟩) v
noncomputable def AGN (v : V) : Option Bool :=
 V.rec (motive_1 := fun _ => Option Bool) (motive_2 := fun _ => PUnit)
  (none)
  (fun _ _ _ => none)
  (fun _ => none)
  (fun _ _ => none)
  (none)
  (fun _ _ => none)
  (fun _ _ => none)
  (none)
  (fun _ _ _ _ _ => none)
  (fun _ _ _ _ => none)
  (fun _ _ _ _ _ => none)
  (none)
  (fun _ => none)
  (some true)
  (fun _ _ _ _ _ => some false)
  (fun _ _ => none)
  (fun _ _ => none)
  (none)
  (fun _ _ _ => none)
  ⟨⟩ (fun _ _ _ _ => ⟨⟩) v
noncomputable def AEg (v : V) : Option Bool :=
 V.rec (motive_1 := fun _ => Option Bool) (motive_2 := fun _ => PUnit)
  (none)
  (fun _ _ _ => none)
  (fun _ => none)
  (fun _ _ => none)
  (none)
  (fun _ _ => none)
  (fun _ _ => none)
  (none)
  (fun _ _ _ _ _ => none)
  (fun _ _ _ _ => none)
  (fun _ _ _ _ _ => none)
  (none)
  (fun _ => none)
  (some false)
  (fun _ _ _ _ _ => none)
  (fun _ _ => none)
  (fun _ _ => none)
  (none)
  (fun _ _ _ => none)
  ⟨⟩ (fun _ _ _ _ => ⟨⟩) v
noncomputable def AGu (v : V) : Option Bool :=
 V.rec (motive_1 := fun _ => Option Bool) (motive_2 := fun _ => PUnit)
  (none)
  (fun _ _ _ => none)
  (fun _ => none)
  (fun _ _ => none)
  (none)
  (fun _ _ => none)
  (fun _ _ => none)
  (none)
  (fun _ _ _ _ _ => none)
  (fun _ _ _ _ => none)
  (fun _ _ _ _ _ => none)
  (some true)
  (fun _ => some false)
  (none)
  (fun _ _ _ _ _ => none)
  (fun _ _ => none)
  (fun _ _ => none)
  (none)
  (fun _ _ _ => none)
  ⟨⟩ (fun _ _ _ _ => ⟨⟩) v
noncomputable def ADh (v : V) : Option Bool :=
 V.rec (motive_1 := fun _ => Option Bool) (motive_2 := fun _ => PUnit)
  (none)
  (fun _ _ _ => none)
  (fun _ => none)
  (fun _ _ => none)
  (none)
  (fun _ _ => none)
  (fun _ _ => none)
  (none)
  (fun _ _ _ _ _ => none)
  (fun _ _ _ _ => none)
  (fun _ _ _ _ _ => none)
  (some false)
  (fun _ => none)
  (none)
  (fun _ _ _ _ _ => none)
  (fun _ _ => none)
  (fun _ _ => none)
  (none)
  (fun _ _ _ => none)
  ⟨⟩ (fun _ _ _ _ => ⟨⟩) v
noncomputable def kSl (v : V) : (V) -> Option Bool :=
 V.rec (motive_1 := fun _ => (V) -> Option Bool) (motive_2 := fun _ => PUnit)
  (fun _ => none)
  (fun _ _ _ _ => none)
  (fun _ _ => none)
  (fun _ _ _ => none)
  (fun _ => none)
  (fun _ _ _ => none)
  (fun _ _ _ => none)
  (fun y => AGv y)
  (fun _ _ _ _ _ y => YV y)
  (fun _ _ _ _ y => YV y)
  (fun _ _ _ _ _ y => YV y)
  (fun _ => none)
  (fun _ _ => none)
  (fun _ => none)
  (fun _ _ _ _ _ _ => none)
  (fun _ _ _ => none)
  (fun _ _ _ => none)
  (fun _ => none)
  (fun _ _ _ _ => none)
  ⟨⟩ (fun _ _ _ _ => ⟨⟩) v
noncomputable def kFn (v : V) : (V) -> Option Bool :=
 V.rec (motive_1 := fun _ => (V) -> Option Bool) (motive_2 := fun _ => PUnit)
  (fun _ => none)
  (fun _ _ _ _ => none)
  (fun _ _ => none)
  (fun _ _ _ => none)
  (fun _ => none)
  (fun _ _ _ => none)
  (fun _ _ _ => none)
  (fun _ => none)
  (fun _ _ _ _ _ _ => none)
  (fun _ _ _ _ _ => none)
  (fun _ _ _ _ _ _ => none)
  (fun _ => none)
  (fun _ _ => none)
  (fun y => AGN y)
  (fun _ _ _ _ _ y => AEg y)
  (fun _ _ _ => none)
  (fun _ _ _ => none)
  (fun _ => none)
  (fun _ _ _ _ => none)
  ⟨⟩ (fun _ _ _ _ => ⟨⟩) v
noncomputable def ANP (v : V) : (V) -> Option Bool :=
 V.rec (motive_1 := fun _ => (V) -> Option Bool) (motive_2 := fun _ => PUnit)
  (fun _ => none)
  (fun _ _ _ _ => none)
  (fun _ _ => none)
  (fun _ _ _ => none)
  (fun _ => none)
  (fun _ _ _ => none)
  (fun _ _ _ => none)
  (fun _ => none)
  (fun _ _ _ _ _ _ => none)
  (fun _ _ _ _ _ => none)
  (fun _ _ _ _ _ _ => none)
  (fun y => AGu y)
  (fun _ y => ADh y)
  (fun _ => none)
  (fun _ _ _ _ _ _ => none)
  (fun _ _ _ => none)
  (fun _ _ _ => none)
  (fun _ => none)
  (fun _ _ _ _ => none)
  ⟨⟩ (fun _ _ _ _ => ⟨⟩) v
noncomputable def XA (o : Option Bool) (f : Bool -> Option Bool) : Option Bool := Option.rec (motive := fun _ => (Bool -> Option Bool) -> Option Bool) (fun _ => none) (fun v f => f v) o f
inductive CK where
 | int | str | bool | ptr
noncomputable def CK.eq (k : CK) : V -> V -> Option Bool := CK.rec (motive := fun _ => V -> V -> Option Bool) ACW ACw tV AGl k
noncomputable def vH (ks : List CK) : List V -> List V -> Option Bool :=
 List.rec (motive := fun _ => List V -> List V -> Option Bool) (fun a b => List.rec (motive := fun _ => Option Bool) (List.rec (motive := fun _ => Option Bool) (some true) (fun _ _ _ => none) b) (fun _ _ _ => none) a)
  (fun k _ g a b => List.rec (motive := fun _ => Option Bool) none (fun x xs _ => List.rec (motive := fun _ => Option Bool) none (fun y ys _ => XA (k.eq x y) fun r => XA (g xs ys) fun r' => some (band r r')) b) a) ks
noncomputable def ALB (v : V) : (List CK) -> (LV) -> Option Bool :=
 V.rec (motive_1 := fun _ => (List CK) -> (LV) -> Option Bool) (motive_2 := fun _ => PUnit)
  (fun _ _ => none)
  (fun _ _ _ _ _ => none)
  (fun _ _ _ => none)
  (fun _ _ _ _ => none)
  (fun _ _ => none)
  (fun _ _ _ _ => none)
  (fun _ _ _ _ => none)
  (fun _ _ => none)
  (fun _ _ _ _ _ _ _ => none)
  (fun _ _ _ _ _ _ => none)
  (fun _ _ _ _ _ _ _ => none)
  (fun _ _ => none)
  (fun _ _ _ => none)
  (fun _ _ => none)
  (fun _ _ _ _ _ _ _ => none)
  (fun a _ ks l => vH ks l a)
  (fun _ _ _ _ => none)
  (fun _ _ => none)
  (fun _ _ _ _ _ => none)
  ⟨⟩ (fun _ _ _ _ => ⟨⟩) v
noncomputable def ALq (v : V) : (List CK) -> (V) -> Option Bool :=
 V.rec (motive_1 := fun _ => (List CK) -> (V) -> Option Bool) (motive_2 := fun _ => PUnit)
  (fun _ _ => none)
  (fun _ _ _ _ _ => none)
  (fun _ _ _ => none)
  (fun _ _ _ _ => none)
  (fun _ _ => none)
  (fun _ _ _ _ => none)
  (fun _ _ _ _ => none)
  (fun _ _ => none)
  (fun _ _ _ _ _ _ _ => none)
  (fun _ _ _ _ _ _ => none)
  (fun _ _ _ _ _ _ _ => none)
  (fun _ _ => none)
  (fun _ _ _ => none)
  (fun _ _ => none)
  (fun _ _ _ _ _ _ _ => none)
  (fun a _ ks y => ALB y ks a)
  (fun _ _ _ _ => none)
  (fun _ _ => none)
  (fun _ _ _ _ _ => none)
  ⟨⟩ (fun _ _ _ _ => ⟨⟩) v
inductive EK where
 | one (k : CK) | agg (ks : List CK) | sl | fn | map
noncomputable def EK.eq (k : EK) : V -> V -> Option Bool := EK.rec (motive := fun _ => V -> V -> Option Bool) (fun k => k.eq) (fun ks x y => ALq x ks y) kSl kFn ANP k
inductive B2 where
 | add | sub | mul | quo | rem | and | or | xor | andNot | shl | shr | lss | leq | gtr | geq
noncomputable def AE7 (f : Int -> Int -> Bool) (x y : V) : Option V := x.FH fun k a s => y.FH fun k' b t => Aq (band (keq k k') (Nat.beq (Nat.add s t) 0)) (mkB (f a b))
noncomputable def zH (f : Nat -> Nat -> Nat -> Nat -> Bool) (x y : V) : Option V := x.Ou fun l c => y.Ou fun m d => mkB (f l c m d)
noncomputable def ari (f : Int -> Int -> Int) (x y : V) : Option V := x.FH fun k a s => y.FH fun k' b t => Aq (keq k k') (mkI k (f a b) (Nat.add s t))
noncomputable def dvs (f : Int -> Int -> Int) (x y : V) : Option V :=
 x.FH fun k a s => y.FH fun k' b t => Aq (band (keq k k') (band (Nat.beq t 0) (Ub (ieq b 0)))) (mkI k (f a b) s)
noncomputable def ALf (x y : V) : Option V :=
 x.FH fun k a s => y.FH fun k' b t => Aq (band (keq k k') (band (Nat.beq t 0) (Ub (ieq b 0)))) (mkN k (Int.tmod a b) s)
noncomputable def AQC (x y : V) : Option V := x.Ou fun l c => y.Ou fun m d => Aq (Nat.blt (Nat.add l m) 9223372036854775808) (CX (Nat.add l m) fun n => CX (ALt l c d) fun e => some (.str n e))
noncomputable def AMp (x y : V) : Option V := nH (isStr x) (AQC x y) (ari wI x y)
noncomputable def AQG (x y : V) : Option V := ari (fun a b => wI a (Int.neg b)) x y
noncomputable def AO3 (x y : V) : Option V := ari Int.mul x y
noncomputable def AGh (k : IntKind) (a b : Int) : Int := Int.rec (motive := fun _ => Int -> IntKind -> Int)
 (fun m b k => Int.rec (motive := fun _ => Nat -> IntKind -> Int) (fun n m k => P7 k (.ofNat (Nat.land m n))) (fun n m k => bits .and k (.ofNat m) (.negSucc n)) b m k)
 (fun m b k => bits .and k (.negSucc m) b) a b k
noncomputable def AJ1 (x y : V) : Option V := x.FH fun k a s => y.FH fun k' b t => Aq (band (keq k k') (Nat.beq (Nat.add s t) 0)) (JG (AGh k a b) fun m => some (.int k m 0))
noncomputable def AGp (o : BinOp) (x y : V) : Option V := x.FH fun k a s => y.FH fun k' b t => Aq (band (keq k k') (Nat.beq (Nat.add s t) 0)) (JG (bits o k a b) fun m => some (.int k m 0))
noncomputable def ALy (a : Int) (n : Nat) : Int := Int.fdiv a (Int.ofNat (Nat.pow 2 n))
noncomputable def ou (k : IntKind) : Nat := IntKind.rec 8 16 32 64 8 16 32 64 k
noncomputable def ALa (x y : V) : Option V := x.FH fun k a s => y.FH fun _ b t => Aq (band (Ub (ilt b 0)) (Nat.beq (Nat.add s t) 0)) (JG (ALy a (Nat.min (Int.toNat b) (ou k))) fun m => some (.int k m 0))
noncomputable def ANl (x y : V) : Option V := x.FH fun k a s => y.FH fun _ b t => Aq (band (Ub (ilt b 0)) (Nat.beq (Nat.add s t) 0)) (mkI k (Int.mul a (Int.ofNat (Nat.pow 2 (Nat.min (Int.toNat b) (ou k))))) 0)
noncomputable def ofB (o : Option Bool) : Option V := Option.rec none mkB o
noncomputable def Ib (k : EK) (neg : Bool) (x y : V) : Option V := ofB (XA (k.eq x y) fun b => some (Bool.rec (motive := fun _ => Bool -> Bool) (fun b => b) Ub neg b))
noncomputable def AMc (x y : V) : Option V := nH (isStr x) (zH slt x y) (AE7 ilt x y)
noncomputable def AM5 (x y : V) : Option V := nH (isStr x) (zH (fun l c m d => Ub (slt m d l c)) x y) (AE7 ile x y)
noncomputable def ANe (x y : V) : Option V := nH (isStr x) (zH (fun l c m d => slt m d l c) x y) (AE7 (fun a b => ilt b a) x y)
noncomputable def ALM (x y : V) : Option V := nH (isStr x) (zH (fun l c m d => Ub (slt l c m d)) x y) (AE7 (fun a b => ile b a) x y)
noncomputable def B2.ev (o : B2) : V -> V -> Option V := B2.rec (motive := fun _ => V -> V -> Option V)
 AMp AQG AO3 (dvs Int.tdiv) ALf AJ1 (AGp .or) (AGp .xor) (AGp .andNot) ANl ALa AMc AM5 ANe ALM o
end Go.Eng
namespace Go.Eng
inductive AN where
 | mv (x : X)
 | pick (c a b : X)
 | ld1 (x : X)
 | ldn (n : Nat) (x : X)
 | AEV (x : X)
 | bin (o : B2) (x y : X)
 | eq (k : EK) (neg : Bool) (x y : X)
 | not (x : X)
 | neg (x : X)
 | cvi (k : IntKind) (x : X)
 | AO1 (f : Nat) (first caps : List X)
 | AK6 (off : Nat) (x : X)
 | field1 (off : Nat) (x : X)
 | AFw (off n : Nat) (x : X)
 | AK1 (esz : Nat) (x i : X)
 | AFq (n esz : Nat) (x i : X)
 | AQl (x i : X)
 | APp (n : Nat) (x i : X)
 | ext (x : X) (i : Nat)
 | AP3 (x : X)
 | AO9 (x : X)
 | AMD (x : X)
 | AOX (n : Nat)
 | look (c : CK) (ok : Bool) (zero : V) (m k : X)
 | build (zero : List V) (parts : List (Nat × Nat × X))
 | ALX (x : X) (lo hi : Option X)
 | slc (esz : Nat) (x : X) (lo hi mx : Option X)
 | APf (n esz : Nat) (x : X) (lo hi : Option X)
 | AP2 (x y : X)
 | AOT (x y : X)
 | cvS (x : X)
 | ADb (s c : X)
 | zH (x y : X)
inductive AA where
 | alloc (esz : Nat) (es : List (List V))
 | box (x : X)
 | sG (esz cnt : Nat) (zero : List V) (parts : List (Nat × X))
 | lF (esz bytes : Nat) (zero : List V) (l c : X)
 | AES
inductive AE where
 | asg (x : X)
 | st (n : Nat) (x v : X)
 | app (esz bytes : Nat) (x y : X)
 | copy (esz : Nat) (x y : X)
 | zo (c : CK) (m k v : X)
 | del (c : CK) (m k : X)
 | ALj (m : X)
 | call (f : Nat) (args : List X)
 | ABD (x : X) (args : List X)
 | defer (dp : P2) (x : X) (args : List X)
 | cvB (x : X)
inductive AO where
 | n (o : AN) | a (o : AA) | e (o : AE)
inductive Zn where
 | no | to (p : P2) | ps
inductive Gd where
 | no | on (x : X) (b : Bool)
inductive gK where
 | mk (d : Zn) (g : Gd) (o : AO)
noncomputable def AGy (n : Int) : (Nat -> Option V) -> Option V := Int.rec (motive := fun _ => (Nat -> Option V) -> Option V) (fun m f => f m) (fun _ _ => none) n
noncomputable def Rn (v : V) (f : Nat -> Option V) : Option V := v.FH fun _ n s => Aq (Nat.beq s 0) (AGy n f)
noncomputable def Uj (x : Option X) : RS -> Nat -> (Nat -> Option V) -> Option V :=
 Option.rec (motive := fun _ => RS -> Nat -> (Nat -> Option V) -> Option V) (fun _ d f => f d) (fun x R _ f => Rn (x.ev R) f) x
noncomputable def f3 (a b c : Nat) (f : Nat -> Nat -> Nat -> V) : Option V := CX a fun a => CX b fun b => CX c fun c => some (f a b c)
noncomputable def nI (R : RS) (lo hi mx : Option X) : Option V := Uj mx R 0 fun m => Uj hi R 0 fun h => Uj lo R 0 fun l => Aq (band (Nat.ble l h) (band (Nat.ble h m) (Nat.beq m 0))) (some .Ae)
noncomputable def xP (z : Nat) (R : RS) (lo hi mx : Option X) (id off ln cap esz : Nat) : Option V := Aq (Nat.beq z esz) (Uj mx R cap fun m => Uj hi R ln fun h => Uj lo R 0 fun l =>
 Aq (band (Nat.ble l h) (band (Nat.ble h m) (Nat.ble m cap))) (f3 (Nat.add off l) (Nat.sub h l) (Nat.sub m l) fun o d c => .sl id o d c esz))
noncomputable def lN (R : RS) (lo hi : Option X) (id off ln esz : Nat) : Option V := Uj hi R ln fun h => Uj lo R 0 fun l =>
 Aq (band (Nat.ble l h) (Nat.ble h ln)) (f3 (Nat.add off l) (Nat.sub h l) 0 fun o d _ => .Nr id o d esz)
noncomputable def jd (R : RS) (lo hi : Option X) (mx : X) (id off ln esz : Nat) : Option V := Rn (mx.ev R) fun m => Uj hi R 0 fun h => Uj lo R 0 fun l =>
 Aq (band (Nat.ble l h) (band (Nat.ble h m) (Nat.ble m ln))) (f3 (Nat.add off l) (Nat.sub h l) (Nat.sub m l) fun o d c => .sl id o d c esz)
noncomputable def iL (z : Nat) (R : RS) (lo hi mx : Option X) (id off ln esz : Nat) : Option V :=
 Aq (Nat.beq z esz) (Option.rec (motive := fun _ => Option V) (lN R lo hi id off ln esz) (fun mx => jd R lo hi mx id off ln esz) mx)
noncomputable def mW (z : Nat) (R : RS) (lo hi mx : Option X) (b off ln cap esz : Nat) : Option V := Uj hi R ln fun h => Uj lo R 0 fun l =>
 Option.rec (motive := fun _ => Option V) (Aq (band (Nat.ble l h) (Nat.ble h cap)) (f3 (Nat.add off (Nat.mul l z)) (Nat.sub h l) (Nat.sub cap l) fun o d c => .rsl b o d c esz)) (fun _ => none) mx
noncomputable def zx (z : Nat) (x : V) (R : RS) (lo hi mx : Option X) : Option V := x.AJA (nI R lo hi mx) (xP z R lo hi mx) (iL z R lo hi mx) (mW z R lo hi mx)
noncomputable def Rw (x : V) (R : RS) (lo hi : Option X) : Option V :=
 x.Ou fun ln c => Uj hi R ln fun h => Uj lo R 0 fun l => Aq (band (Nat.ble l h) (Nat.ble h ln)) (f3 (Nat.sub h l) (AHp c l h) 0 fun d c _ => .str d c)
noncomputable def BJ (esz : Nat) (x i : V) : Option V := Rn i fun i => x.AJA none
 (fun id off ln _ e => Aq (band (Nat.beq e esz) (Nat.blt i ln)) (CX (Nat.mul (Nat.add off i) esz) fun o => some (.ptr id o)))
 (fun id off ln e => Aq (band (Nat.beq e esz) (Nat.blt i ln)) (CX (Nat.mul (Nat.add off i) esz) fun o => some (.ptr id o)))
 (fun b off ln _ _ => Aq (Nat.blt i ln) (CX (Nat.add off (Nat.mul i esz)) fun o => some (.gptr b o)))
noncomputable def AX (off : Nat) (x : V) : Option V := x.xB (fun id o => CX (Nat.add o off) fun o => some (.ptr id o)) (fun b o => CX (Nat.add o off) fun o => some (.gptr b o))
abbrev ME := List (V × V × Nat)
noncomputable def bD (c : CK) (k : V) (es : ME) : Nat -> Option (Option (Nat × V)) :=
 List.rec (motive := fun _ => Nat -> Option (Option (Nat × V))) (fun _ => some none)
  (fun e _ g i => BK (c.eq e.1 k) fun r => Bool.rec (g (Nat.succ i)) (some (some (i, e.2.1))) r) es
noncomputable def APJ (b : OD) : (ME -> Nat -> Option V) -> Option V := OD.rec (motive := fun _ => (ME -> Nat -> Option V) -> Option V) (fun _ _ _ _ => none) (fun es c f => f es c) (fun _ => none) b
noncomputable def NY (H : Heap) (m : V) (f : ME -> Nat -> Option V) : Option V := m.ACs (f [] 0) fun id => Option.rec (motive := fun _ => (ME -> Nat -> Option V) -> Option V) (fun _ => none) APJ (T.get H id) f
noncomputable def aI (parts : List (Nat × Nat × X)) : RS -> List V -> List V :=
 List.rec (motive := fun _ => RS -> List V -> List V) (fun _ l => l) (fun p _ g R l => g R (ABf (BO (p.2.2.ev R)) p.1 l)) parts
noncomputable def Xc (v : V) : Bool :=
 V.rec (motive_1 := fun _ => Bool) (motive_2 := fun _ => PUnit)
  (false)
  (fun _ _ _ => true)
  (fun _ => true)
  (fun _ _ => true)
  (true)
  (fun _ _ => true)
  (fun _ _ => true)
  (true)
  (fun _ _ _ _ _ => true)
  (fun _ _ _ _ => true)
  (fun _ _ _ _ _ => true)
  (true)
  (fun _ => true)
  (true)
  (fun _ _ _ _ _ => true)
  (fun _ _ => true)
  (fun _ _ => false)
  (true)
  (fun _ _ _ => true)
  ⟨⟩ (fun _ _ _ _ => ⟨⟩) v
noncomputable def Qg (parts : List (Nat × Nat × X)) : RS -> Bool :=
 List.rec (motive := fun _ => RS -> Bool) (fun _ => true) (fun p _ g R => band (band (Xc (p.2.2.ev R)) (Nat.beq (len (BO (p.2.2.ev R))) p.2.1)) (g R)) parts
abbrev D5 := List LV
noncomputable def Cb (H : Heap) (id esz : Nat) (n : Nat) : Nat -> Option D5 :=
 Nat.rec (motive := fun _ => Nat -> Option D5) (fun _ => some [])
  (fun _ g o => BK (ZU H id (Nat.mul o esz) esz) fun L => BK (g (Nat.succ o)) fun LS => some (L :: LS)) n
noncomputable def ah (G : AP) (b esz : Nat) (n : Nat) : Nat -> Option D5 :=
 Nat.rec (motive := fun _ => Nat -> Option D5) (fun _ => some [])
  (fun _ g o => BK (G b o esz) fun L => BK (g (Nat.add o esz)) fun LS => some (L :: LS)) n
noncomputable def Pn (n : Nat) : Nat -> D5 :=
 Nat.rec (motive := fun _ => Nat -> D5) (fun _ => []) (fun _ g c => [.int .u8 (.ofNat (Nat.mod c 256)) 0] :: g (Nat.div c 256)) n
noncomputable def elems (v : V) : (AP) -> (Heap) -> (Nat) -> Option D5 :=
 V.rec (motive_1 := fun _ => (AP) -> (Heap) -> (Nat) -> Option D5) (motive_2 := fun _ => PUnit)
  (fun _ _ _ => none)
  (fun _ _ _ _ _ _ => none)
  (fun _ _ _ _ => none)
  (fun a b _ _ z => Bool.rec (motive := fun _ => Option D5) none (some (Pn a b)) (Nat.beq 1 z))
  (fun _ _ _ => none)
  (fun _ _ _ _ _ => none)
  (fun _ _ _ _ _ => none)
  (fun _ _ _ => some [])
  (fun a b c _ e _ H z => Bool.rec (motive := fun _ => Option D5) none (Cb H a z c b) (Nat.beq e z))
  (fun a b c d _ H z => Bool.rec (motive := fun _ => Option D5) none (Cb H a z c b) (Nat.beq d z))
  (fun a b c _ _ G _ z => ah G a z c b)
  (fun _ _ _ => none)
  (fun _ _ _ _ => none)
  (fun _ _ _ => none)
  (fun _ _ _ _ _ _ _ _ => none)
  (fun _ _ _ _ _ => none)
  (fun _ _ _ _ _ => none)
  (fun _ _ _ => none)
  (fun _ _ _ _ _ _ => none)
  ⟨⟩ (fun _ _ _ _ => ⟨⟩) v
noncomputable def byteOf (v : V) : Option Nat :=
 V.rec (motive_1 := fun _ => Option Nat) (motive_2 := fun _ => PUnit)
  (none)
  (fun a b c => Int.rec (motive := fun _ => Nat -> Option Nat) (fun m t => Bool.rec none (some m) (band (Nat.beq (kno a) 4) (band (Nat.blt m 256) (Nat.beq t 0)))) (fun _ _ => none) b c)
  (fun _ => none)
  (fun _ _ => none)
  (none)
  (fun _ _ => none)
  (fun _ _ => none)
  (none)
  (fun _ _ _ _ _ => none)
  (fun _ _ _ _ => none)
  (fun _ _ _ _ _ => none)
  (none)
  (fun _ => none)
  (none)
  (fun _ _ _ _ _ => none)
  (fun _ _ => none)
  (fun _ _ => none)
  (none)
  (fun _ _ _ => none)
  ⟨⟩ (fun _ _ _ _ => ⟨⟩) v
noncomputable def jS (l : D5) : Option Nat :=
 List.rec (motive := fun _ => Option Nat) (some 0) (fun x _ g => BK (nth x 0) fun v => BK (byteOf v) fun m => BK g fun c => some (Nat.add m (Nat.mul 256 c))) l
noncomputable def Xg (b : Nat) (f : Nat) : Nat -> Nat -> Int :=
 Nat.rec (motive := fun _ => Nat -> Nat -> Int) (fun _ _ => .negSucc 0)
  (fun _ g c i => Bool.rec (g (Nat.div c 256) (Nat.succ i)) (.ofNat i) (Nat.beq (Nat.mod c 256) b)) f
abbrev bH := AP -> RS -> Heap -> Option V
noncomputable def eMv (x : X) : bH := fun _ R _ => some (x.ev R)
noncomputable def eNo (b : X) (R : RS) : Option V := some (b.ev R)
noncomputable def ADy (c a b : X) : bH := fun _ R _ => (c.ev R).aP fun t => nH t (some (a.ev R)) (some (b.ev R))
noncomputable def AKC (x : X) : bH := fun G R H => LX (lY (x.ev R) G H 1) fun L => nth L 0
noncomputable def AJt (n : Nat) (x : X) : bH := fun G R H => LX (lY (x.ev R) G H n) fun L => some (.agg L)
noncomputable def AAE (x : X) : bH := fun _ R _ => BF (x.ev R)
noncomputable def AIl (o : B2) (x y : X) : bH := fun _ R _ => o.ev (x.ev R) (y.ev R)
noncomputable def eEq (k : EK) (neg : Bool) (x y : X) : bH := fun _ R _ => Ib k neg (x.ev R) (y.ev R)
noncomputable def AIZ (x : X) : bH := fun _ R _ => (x.ev R).aP fun b => mkB (Ub b)
noncomputable def AKI (x : X) : bH := fun _ R _ => (x.ev R).FH fun k n s => mkI k (Int.neg n) s
noncomputable def AJl (k : IntKind) (x : X) : bH := fun _ R _ => (x.ev R).FH fun _ n s => mkI k n s
noncomputable def AEO (f : Nat) (a c : List X) : bH := fun _ R _ => some (.fn f (RD a R) (RD c R))
noncomputable def AAV (off : Nat) (x : X) : bH := fun _ R _ => AX off (x.ev R)
noncomputable def rC (off : Nat) (x : X) : bH := fun _ R _ => (x.ev R).aX fun l => nth l off
noncomputable def qR (off n : Nat) (x : X) : bH := fun _ R _ => (x.ev R).aX fun l => some (.agg (Tj n (Xp off l)))
noncomputable def AAe (esz : Nat) (x i : X) : bH := fun _ R _ => BJ esz (x.ev R) (i.ev R)
noncomputable def qx (n esz : Nat) (x i : X) : bH := fun _ R _ => Rn (i.ev R) fun i => Aq (Nat.blt i n) (AX (Nat.mul i esz) (x.ev R))
noncomputable def AEU (x i : X) : bH := fun _ R _ => (x.ev R).Ou fun ln c => Rn (i.ev R) fun i => Aq (Nat.blt i ln) (CX (AEs c i) fun b => some (.int .u8 (.ofNat b) 0))
noncomputable def AD1 (n : Nat) (x i : X) : bH := fun _ R _ => (x.ev R).aX fun l => Rn (i.ev R) fun i => Aq (Nat.blt i n) (nth l i)
noncomputable def AJD (x : X) (i : Nat) : bH := fun _ R _ => (x.ev R).ABl fun l => nth l i
noncomputable def AEQ (x : X) : bH := fun _ R _ => (x.ev R).Ou fun n _ => some (.int .i64 (.ofNat n) 0)
noncomputable def ADz (x : X) : bH := fun _ R _ => lenV (x.ev R)
noncomputable def AEi (x : X) : bH := fun _ R H => NY H (x.ev R) fun es _ => CX (len es) fun n => some (.int .i64 (.ofNat n) 0)
noncomputable def APz (n : Nat) : bH := fun _ _ _ => some (.int .i64 (.ofNat n) 0)
noncomputable def ADm (ok : Bool) (z : V) (r : Option (Nat × V)) : Option V :=
 Option.rec (motive := fun _ => Option V) (nH ok (some (.Gh [z, .bool false])) (some z)) (fun p => nH ok (some (.Gh [p.2, .bool true])) (some p.2)) r
noncomputable def AEc (c : CK) (ok : Bool) (z : V) (m k : X) : bH := fun _ R H => NY H (m.ev R) fun es _ => BK (bD c (k.ev R) es 0) (ADm ok z)
noncomputable def yU (z : LV) (ps : List (Nat × Nat × X)) : bH := fun _ R _ => Aq (Qg ps R) (some (.agg (aI ps R z)))
noncomputable def rQ (x : X) (lo hi : Option X) : bH := fun _ R _ => Rw (x.ev R) R lo hi
noncomputable def AKM (z : Nat) (x : X) (lo hi mx : Option X) : bH := fun _ R _ => zx z (x.ev R) R lo hi mx
noncomputable def wP (n esz : Nat) (x : X) (lo hi : Option X) : bH := fun _ R _ => (x.ev R).xB (fun id o => Uj hi R n fun h => Uj lo R 0 fun l =>
 Aq (band (Nat.beq (Nat.mod o esz) 0) (band (Nat.ble l h) (Nat.ble h n))) (f3 (Nat.add (Nat.div o esz) l) (Nat.sub h l) (Nat.sub n l) fun a b c => .sl id a b c esz)) (fun _ _ => none)
noncomputable def AJV (x y : X) : bH := fun _ R _ => (x.ev R).FH fun k a s => (y.ev R).FH fun k' b t => Aq (band (keq k k') (Nat.beq (Nat.add s t) 0)) (some (.int k (Bool.rec a b (ilt a b)) 0))
noncomputable def AJp (x y : X) : bH := fun _ R _ => (x.ev R).FH fun k a s => (y.ev R).FH fun k' b t => Aq (band (keq k k') (Nat.beq (Nat.add s t) 0)) (some (.int k (Bool.rec a b (ilt b a)) 0))
noncomputable def AJZ (x : X) : bH := fun G R H => Aq (Ub (isStr (x.ev R))) (BK (elems (x.ev R) G H 1) fun l => BK (jS l) fun c => f3 (len l) c 0 fun n c _ => .str n c)
noncomputable def zS (s c : X) : bH := fun _ R _ => (s.ev R).Ou fun n cd => (c.ev R).FH fun k b _ => Aq (Nat.beq (kno k) 4) (AGy b fun b => Aq (Nat.blt b 256) (JG (Xg b n cd 0) fun i => some (.int .i64 i 0)))
noncomputable def AEC (x y : V) : Option V := x.Ou fun l c => y.Ou fun m d => some (.int .i64 (Bool.rec (Bool.rec (.ofNat 0) (.ofNat 1) (slt m d l c)) (.negSucc 0) (slt l c m d)) 0)
noncomputable def AEF (x y : X) : bH := fun _ R _ => AEC (x.ev R) (y.ev R)
noncomputable def AN.ev (o : AN) : bH := AN.rec (motive := fun _ => bH)
 eMv ADy AKC AJt AAE AIl eEq AIZ AKI AJl AEO AAV rC qR AAe qx AEU AD1 AJD AEQ ADz AEi APz AEc yU rQ AKM wP AJV AJp AJZ zS AEF o
noncomputable def ADP (L : LV) (n : Nat) : T LV -> T LV :=
 Nat.rec (motive := fun _ => T LV -> T LV) (fun t => t) (fun i g t => g (T.set t i L)) n
noncomputable def ER (LS : D5) : Nat -> T LV -> T LV :=
 List.rec (motive := fun _ => Nat -> T LV -> T LV) (fun _ t => t) (fun L _ g i t => g (Nat.succ i) (T.set t i L)) LS
noncomputable def V8 (parts : List (Nat × X)) : RS -> T LV -> T LV :=
 List.rec (motive := fun _ => RS -> T LV -> T LV) (fun _ t => t) (fun p _ g R t => g R (T.set t p.1 (BO (p.2.ev R)))) parts
noncomputable def OY (parts : List (Nat × X)) : RS -> Nat -> Nat -> Bool :=
 List.rec (motive := fun _ => RS -> Nat -> Nat -> Bool) (fun _ _ _ => true) (fun p _ g R esz cnt => band (band (Xc (p.2.ev R)) (band (Nat.blt p.1 cnt) (Nat.beq (len (BO (p.2.ev R))) esz))) (g R esz cnt)) parts
noncomputable def V.AGO (v : V) : (Nat -> Prop) -> Prop :=
 V.rec (motive_1 := fun _ => (Nat -> Prop) -> Prop) (motive_2 := fun _ => PUnit)
  (fun _ => False)
  (fun _ _ _ _ => False)
  (fun _ _ => False)
  (fun _ _ _ => False)
  (fun _ => False)
  (fun a _ f => f a)
  (fun _ _ _ => False)
  (fun _ => False)
  (fun _ _ _ _ _ _ => False)
  (fun _ _ _ _ _ => False)
  (fun _ _ _ _ _ _ => False)
  (fun _ => False)
  (fun _ _ => False)
  (fun _ => False)
  (fun _ _ _ _ _ _ => False)
  (fun _ _ _ => False)
  (fun _ _ _ => False)
  (fun _ => False)
  (fun _ _ _ _ => False)
  ⟨⟩ (fun _ _ _ _ => ⟨⟩) v
noncomputable def V.lI (v : V) : (Nat -> Nat -> Prop) -> Prop :=
 V.rec (motive_1 := fun _ => (Nat -> Nat -> Prop) -> Prop) (motive_2 := fun _ => PUnit)
  (fun _ => False)
  (fun _ _ _ _ => False)
  (fun _ _ => False)
  (fun _ _ _ => False)
  (fun _ => False)
  (fun a b f => f a b)
  (fun _ _ _ => False)
  (fun _ => False)
  (fun _ _ _ _ _ _ => False)
  (fun _ _ _ _ _ => False)
  (fun _ _ _ _ _ _ => False)
  (fun _ => False)
  (fun _ _ => False)
  (fun _ => False)
  (fun _ _ _ _ _ _ => False)
  (fun _ _ _ => False)
  (fun _ _ _ => False)
  (fun _ => False)
  (fun _ _ _ _ => False)
  ⟨⟩ (fun _ _ _ _ => ⟨⟩) v
abbrev KA := OD -> (Nat -> V) -> Prop
abbrev AlT := RS -> KA -> Prop
noncomputable def Gn (b : Bool) (p : Prop) : Prop := Bool.rec (motive := fun _ => Prop -> Prop) (fun _ => False) (fun p => p) b p
noncomputable def zX (v : V) (f : Nat -> Prop) : Prop := FN (Rn v fun n => some (.ptr n 0)) fun v => V.AGO v f
noncomputable def Ai (esz : Nat) (es : D5) : AlT := fun _ k => DN (len es) fun n => k (.arr esz n (ER es 0 .e)) fun id => .ptr id 0
noncomputable def wK (x : X) : AlT := fun R k => Gn (Xc (x.ev R)) (DN (len (BO (x.ev R))) fun e => k (.arr e 1 (T.set .e 0 (BO (x.ev R)))) fun id => .ptr id 0)
noncomputable def Ag (esz cnt : Nat) (z : LV) (ps : List (Nat × X)) : AlT := fun R k => Gn (OY ps R esz cnt) (k (.arr esz cnt (V8 ps R (ADP z cnt .e))) fun id => .sl id 0 cnt cnt esz)
noncomputable def OL (esz bs : Nat) (z : LV) (l c : X) : AlT := fun R k => zX (l.ev R) fun l => zX (c.ev R) fun c =>
 Gn (band (Nat.ble l c) (Nat.ble (Nat.mul bs c) 281474976710656)) (k (.arr esz c (ADP z c .e)) fun id => .sl id 0 l c esz)
noncomputable def AC2 : AlT := fun _ k => k (.map [] 0) fun id => .map id
noncomputable def AA.al (o : AA) : AlT := AA.rec (motive := fun _ => AlT) Ai wK Ag OL AC2 o
abbrev K := FY -> Heap -> Nat -> Prop
abbrev KV := V -> Heap -> Nat -> Prop
abbrev AQ := Nat -> List V -> Heap -> Nat -> KV -> Prop
noncomputable def NI (need bytes : Nat) : Bool := Nat.ble (Nat.mul need bytes) 140737488355328
abbrev ACK := AP -> Nat -> Nat -> D5 -> Heap -> Nat -> KV -> Prop
noncomputable def L9 (esz bs : Nat) (OS LS : D5) (H : Heap) (n : Nat) (k : KV) : Prop :=
 DN (Nat.add (len OS) (len LS)) fun need => Gn (NI need bs) (DN n fun n => k (.Nr n 0 need esz) (T.set H n (.arr esz need (ER LS (len OS) (ER OS 0 .e)))) (Nat.succ n))
noncomputable def AMf : ACK := fun _ esz bs LS H n k => List.rec (motive := fun _ => Prop) (k .Ae H n) (fun _ _ _ => L9 esz bs [] LS H n k) LS
noncomputable def qE (id off ln cap esz need : Nat) (LS : D5) (H : Heap) (n : Nat) (k : KV) (b : OD) : Prop :=
 OD.rec (motive := fun _ => Prop) (fun esz' cnt c => Gn (band (Nat.beq esz esz') (Nat.ble (Nat.add off need) cnt)) (k (.sl id off need cap esz) (T.set H id (.arr esz cnt (ER LS (Nat.add off ln) c))) n)) (fun _ _ => False) False b
noncomputable def ALA (id off ln cap e : Nat) : ACK := fun _ esz bs LS H n k => Gn (Nat.beq e esz) (DN (Nat.add ln (len LS)) fun need =>
 Bool.rec (motive := fun _ => Prop) (FN (Cb H id esz ln off) fun OS => L9 esz bs OS LS H n k) (FN (T.get H id) fun b => qE id off ln cap esz need LS H n k b) (Nat.ble need cap))
noncomputable def WX (id off ln esz bs : Nat) (LS : D5) (H : Heap) (n : Nat) (k : KV) (b : OD) : Prop :=
 OD.rec (motive := fun _ => Prop) (fun esz' cnt c => DN (Nat.add ln (len LS)) fun need => Gn (band (NI need bs) (band (Nat.beq esz esz') (Nat.ble (Nat.add off ln) cnt)))
  (DN n fun n => Nat.rec (motive := fun _ => Prop)
   (k (.Nr n 0 need esz) (T.set (T.set H id .dead) n (.arr esz need (ER LS ln c))) (Nat.succ n))
   (fun _ _ => FN (Cb H id esz ln off) fun OS => k (.Nr n 0 need esz) (T.set (T.set H id .dead) n (.arr esz need (ER LS ln (ER OS 0 .e)))) (Nat.succ n)) off))
  (fun _ _ => False) False b
noncomputable def AGq (id off ln e : Nat) : ACK := fun _ esz bs LS H n k => Gn (Nat.beq e esz) (List.rec (motive := fun _ => Prop) (k (.Nr id off ln esz) H n)
 (fun _ _ _ => FN (T.get H id) fun b => WX id off ln esz bs LS H n k b) LS)
noncomputable def AGL (b off ln cap e : Nat) : ACK := fun G esz bs LS H n k => Gn (Nat.blt cap (Nat.add ln (len LS))) (FN (ah G b esz ln off) fun OS => L9 esz bs OS LS H n k)
noncomputable def V4 : ACK := fun _ _ _ _ _ _ _ => False
noncomputable def ABm (v : V) : ACK :=
 V.rec (motive_1 := fun _ => ACK) (motive_2 := fun _ => PUnit)
  (V4)
  (fun _ _ _ => V4)
  (fun _ => V4)
  (fun _ _ => V4)
  (V4)
  (fun _ _ => V4)
  (fun _ _ => V4)
  (AMf)
  (fun a b c d e => ALA a b c d e)
  (fun a b c d => AGq a b c d)
  (fun a b c d e => AGL a b c d e)
  (V4)
  (fun _ => V4)
  (V4)
  (fun _ _ _ _ _ => V4)
  (fun _ _ => V4)
  (fun _ _ => V4)
  (V4)
  (fun _ _ _ => V4)
  ⟨⟩ (fun _ _ _ _ => ⟨⟩) v
noncomputable def ALO (id off esz : Nat) (LS : D5) (H : Heap) (n : Nat) (k : KV) (b : OD) : Prop :=
 OD.rec (motive := fun _ => Prop) (fun esz' cnt c => Gn (band (Nat.beq esz esz') (Nat.ble (Nat.add off (len LS)) cnt)) (DN (len LS) fun m => k (.int .i64 (.ofNat m) 0) (T.set H id (.arr esz cnt (ER LS off c))) n)) (fun _ _ => False) False b
abbrev CpT := Nat -> D5 -> Heap -> Nat -> KV -> Prop
noncomputable def uP (id off ln : Nat) : CpT := fun esz LS H n k => FN (T.get H id) fun b => ALO id off esz (Tj ln LS) H n k b
noncomputable def xZ (v : V) : (Nat) -> (D5) -> (Heap) -> (Nat) -> (KV) -> Prop :=
 V.rec (motive_1 := fun _ => (Nat) -> (D5) -> (Heap) -> (Nat) -> (KV) -> Prop) (motive_2 := fun _ => PUnit)
  (fun _ _ _ _ _ => False)
  (fun _ _ _ _ _ _ _ _ => False)
  (fun _ _ _ _ _ _ => False)
  (fun _ _ _ _ _ _ _ => False)
  (fun _ _ _ _ _ => False)
  (fun _ _ _ _ _ _ _ => False)
  (fun _ _ _ _ _ _ _ => False)
  (fun _ _ H n k => k (.int .i64 (.ofNat 0) 0) H n)
  (fun a b c _ e z L H n k => Gn (Nat.beq e z) (uP a b c z L H n k))
  (fun a b c d z L H n k => Gn (Nat.beq d z) (uP a b c z L H n k))
  (fun _ _ _ _ _ _ _ _ _ _ => False)
  (fun _ _ _ _ _ => False)
  (fun _ _ _ _ _ _ => False)
  (fun _ _ _ _ _ => False)
  (fun _ _ _ _ _ _ _ _ _ _ => False)
  (fun _ _ _ _ _ _ _ => False)
  (fun _ _ _ _ _ _ _ => False)
  (fun _ _ _ _ _ => False)
  (fun _ _ _ _ _ _ _ _ => False)
  ⟨⟩ (fun _ _ _ _ => ⟨⟩) v
noncomputable def tJ {α : Type} (l : List α) : Nat -> List α :=
 List.rec (motive := fun _ => Nat -> List α) (fun _ => []) (fun y ys g i => Nat.rec (motive := fun _ => List α) ys (fun i _ => y :: g i) i) l
noncomputable def AKz (b : OD) : (ME -> Nat -> Option OD) -> Option OD := OD.rec (motive := fun _ => (ME -> Nat -> Option OD) -> Option OD) (fun _ _ _ _ => none) (fun es c f => f es c) (fun _ => none) b
noncomputable def APq (H : Heap) (id : Nat) (f : ME -> Nat -> Option OD) (g : Heap -> Prop) : Prop := FN (T.get H id) fun b => FN (AKz b f) fun b => g (T.set H id b)
noncomputable def qN (v : V) : (Heap) -> (ME -> Nat -> Option OD) -> (Heap -> Prop) -> Prop :=
 V.rec (motive_1 := fun _ => (Heap) -> (ME -> Nat -> Option OD) -> (Heap -> Prop) -> Prop) (motive_2 := fun _ => PUnit)
  (fun _ _ _ => False)
  (fun _ _ _ _ _ _ => False)
  (fun _ _ _ _ => False)
  (fun _ _ _ _ _ => False)
  (fun _ _ _ => False)
  (fun _ _ _ _ _ => False)
  (fun _ _ _ _ _ => False)
  (fun _ _ _ => False)
  (fun _ _ _ _ _ _ _ _ => False)
  (fun _ _ _ _ _ _ _ => False)
  (fun _ _ _ _ _ _ _ _ => False)
  (fun _ _ _ => False)
  (fun a H f g => APq H a f g)
  (fun _ _ _ => False)
  (fun _ _ _ _ _ _ _ _ => False)
  (fun _ _ _ _ _ => False)
  (fun _ _ _ _ _ => False)
  (fun _ _ _ => False)
  (fun _ _ _ _ _ _ => False)
  ⟨⟩ (fun _ _ _ _ => ⟨⟩) v
noncomputable def V.Ri (v : V) : (Nat -> LV -> LV -> Prop) -> Prop :=
 V.rec (motive_1 := fun _ => (Nat -> LV -> LV -> Prop) -> Prop) (motive_2 := fun _ => PUnit)
  (fun _ => False)
  (fun _ _ _ _ => False)
  (fun _ _ => False)
  (fun _ _ _ => False)
  (fun _ => False)
  (fun _ _ _ => False)
  (fun _ _ _ => False)
  (fun _ => False)
  (fun _ _ _ _ _ _ => False)
  (fun _ _ _ _ _ => False)
  (fun _ _ _ _ _ _ => False)
  (fun _ => False)
  (fun _ _ => False)
  (fun _ => False)
  (fun a b c _ _ f => f a b c)
  (fun _ _ _ => False)
  (fun _ _ _ => False)
  (fun _ => False)
  (fun _ _ _ _ => False)
  ⟨⟩ (fun _ _ _ _ => ⟨⟩) v
noncomputable def cZ (v : V) : LV :=
 V.rec (motive_1 := fun _ => LV) (motive_2 := fun _ => PUnit)
  ([])
  (fun _ _ _ => [])
  (fun _ => [])
  (fun _ _ => [])
  ([])
  (fun _ _ => [])
  (fun _ _ => [])
  ([])
  (fun _ _ _ _ _ => [])
  (fun _ _ _ _ => [])
  (fun _ _ _ _ _ => [])
  ([])
  (fun _ => [])
  ([])
  (fun _ _ _ _ _ => [])
  (fun _ _ => [])
  (fun a _ => a)
  ([])
  (fun _ _ _ => [])
  ⟨⟩ (fun _ _ _ _ => ⟨⟩) v
abbrev ExT := AP -> AQ -> RS -> Heap -> Nat -> KV -> Prop
noncomputable def AR5 (x : X) : ExT := fun _ _ R H n k => k (x.ev R) H n
noncomputable def xSt (sz : Nat) (x v : X) : ExT := fun _ _ R H n k => Gn (band (Xc (v.ev R)) (Nat.beq (len (BO (v.ev R))) sz)) (FN (stP (x.ev R) H sz (BO (v.ev R))) fun H => k .undef H n)
noncomputable def ASU (esz bs : Nat) (x y : X) : ExT := fun G _ R H n k => FN (elems (y.ev R) G H esz) fun LS => ABm (x.ev R) G esz bs LS H n k
noncomputable def AQc (esz : Nat) (x y : X) : ExT := fun G _ R H n k => FN (elems (y.ev R) G H esz) fun LS => xZ (x.ev R) esz LS H n k
noncomputable def ACY (ck : CK) (key v : V) (es : ME) (c : Nat) : Option OD := BK (bD ck key es 0) fun r =>
 Option.rec (motive := fun _ => Option OD) (some (.map (cat es [(key, v, c)]) (Nat.succ c))) (fun p => BK (nth es p.1) fun e => some (.map (Y2 (e.1, v, e.2.2) es p.1) c)) r
noncomputable def AKD (ck : CK) (key : V) (es : ME) (c : Nat) : Option OD := BK (bD ck key es 0) fun r =>
 Option.rec (motive := fun _ => Option OD) (some (.map es c)) (fun p => some (.map (tJ es p.1) c)) r
noncomputable def ARs (c : CK) (m key v : X) : ExT := fun _ _ R H n k => qN (m.ev R) H (ACY c (key.ev R) (v.ev R)) fun H => k .undef H n
noncomputable def AS1 (c : CK) (m key : X) : ExT := fun _ _ R H n k => qN (m.ev R) H (AKD c (key.ev R)) fun H => k (.Gh []) H n
noncomputable def ATF (m : X) : ExT := fun _ _ R H n k => qN (m.ev R) H (fun _ c => some (.map [] c)) fun H => k (.Gh []) H n
noncomputable def AQQ (f : Nat) (args : List X) : ExT := fun _ call R H n k => call f (RD args R) H n k
noncomputable def ANH (x : X) (args : List X) : ExT := fun _ call R H n k => V.Ri (x.ev R) fun f a c => call f (cat a (cat (RD args R) c)) H n k
noncomputable def AMW (dp : P2) (x : X) (args : List X) : ExT := fun _ _ R H n k => V.Ri (x.ev R) fun f a c => k (.Gh (.fn f (cat a (RD args R)) c :: cZ (KJ (T.DU dp R.rg)))) H n
noncomputable def ASA (x : X) : ExT := fun _ _ R H n k => FN ((x.ev R).Ou fun l c => some (.ptr l c)) fun v => V.lI v fun l c =>
 DN n fun n => k (.Nr n 0 l 1) (T.set H n (.arr 1 l (ER (Pn l c) 0 .e))) (Nat.succ n)
noncomputable def AE.ex (o : AE) : ExT := AE.rec (motive := fun _ => ExT) AR5 xSt ASU AQc ARs AS1 ATF AQQ ANH AMW ASA o
noncomputable def ASY (p : P2) (v : V) (E : RS) : RS := RS.rec (motive := fun _ => P2 -> V -> RS) (fun L R p v => .mk L (T.Iu v p R)) E p v
noncomputable def AQH (v : V) (E : RS) : RS := RS.rec (motive := fun _ => V -> RS) (fun L R v => .mk (v :: L) R) E v
noncomputable def Eb (d : Zn) (v : V) : RS -> RS := Zn.rec (motive := fun _ => V -> RS -> RS) (fun _ R => R) ASY AQH d v
abbrev KE := RS -> Heap -> Nat -> Prop
abbrev XoT := AP -> AQ -> Zn -> RS -> Heap -> Nat -> KE -> Prop
noncomputable def oN (o : AN) : XoT := fun G _ d R H n k => AU (o.ev G R H) fun v => k (Eb d v R) H n
noncomputable def oA (o : AA) : XoT := fun _ _ d R H n k => o.al R fun b f => DN n fun n => k (Eb d (f n) R) (T.set H n b) (Nat.succ n)
noncomputable def oE (o : AE) : XoT := fun G call d R H n k => o.ex G call R H n fun v H n => k (Eb d v R) H n
noncomputable def AO.ex (o : AO) : XoT := AO.rec (motive := fun _ => XoT) oN oA oE o
noncomputable def Ac (v : V) (b : Bool) (yes no : Prop) : Prop := v.yc fun t => Bool.rec (motive := fun _ => Prop -> Prop -> Prop) (fun _ n => n) (fun y _ => y) (AHr t b) yes no
noncomputable def XV (v : V) : (Bool) -> (Prop) -> (Prop) -> Prop :=
 V.rec (motive_1 := fun _ => (Bool) -> (Prop) -> (Prop) -> Prop) (motive_2 := fun _ => PUnit)
  (fun _ _ _ => False)
  (fun _ _ _ _ _ _ => False)
  (fun a b' yes no => Bool.rec (motive := fun _ => Prop -> Prop -> Prop) (fun _ n => n) (fun y _ => y) (AHr a b') yes no)
  (fun _ _ _ _ _ => False)
  (fun _ _ _ => False)
  (fun _ _ _ _ _ => False)
  (fun _ _ _ _ _ => False)
  (fun _ _ _ => False)
  (fun _ _ _ _ _ _ _ _ => False)
  (fun _ _ _ _ _ _ _ => False)
  (fun _ _ _ _ _ _ _ _ => False)
  (fun _ _ _ => False)
  (fun _ _ _ _ => False)
  (fun _ _ _ => False)
  (fun _ _ _ _ _ _ _ _ => False)
  (fun _ _ _ _ _ => False)
  (fun a _ _ _ no => List.rec (motive := fun _ => Prop) no (fun _ _ _ => False) a)
  (fun _ _ _ => False)
  (fun _ _ _ _ _ _ => False)
  ⟨⟩ (fun _ _ _ _ => ⟨⟩) v
abbrev oO := AP -> AQ -> RS -> Heap -> Nat -> KE -> Prop
noncomputable def gNo (d : Zn) (o : AO) : oO := fun G call R H n k => o.ex G call d R H n k
noncomputable def gOn (x : X) (b : Bool) (d : Zn) (o : AO) : oO := fun G call R H n k => XV (x.ev R) b (o.ex G call d R H n k) (k (Eb d (.Gh []) R) H n)
noncomputable def gK.ex (o : gK) : oO := gK.rec (motive := fun _ => oO) (fun d g o => Gd.rec (motive := fun _ => Zn -> AO -> oO) gNo gOn g d o) o
noncomputable def AEe (v : V) : (IntKind) -> (Int) -> (Nat) -> Bool :=
 V.rec (motive_1 := fun _ => (IntKind) -> (Int) -> (Nat) -> Bool) (motive_2 := fun _ => PUnit)
  (fun _ _ _ => false)
  (fun a b c k n s => band (keq k a) (band (ieq n b) (band (Nat.beq s 0) (Nat.beq c 0))))
  (fun _ _ _ _ => false)
  (fun _ _ _ _ _ => false)
  (fun _ _ _ => false)
  (fun _ _ _ _ _ => false)
  (fun _ _ _ _ _ => false)
  (fun _ _ _ => false)
  (fun _ _ _ _ _ _ _ _ => false)
  (fun _ _ _ _ _ _ _ => false)
  (fun _ _ _ _ _ _ _ _ => false)
  (fun _ _ _ => false)
  (fun _ _ _ _ => false)
  (fun _ _ _ => false)
  (fun _ _ _ _ _ _ _ _ => false)
  (fun _ _ _ _ _ => false)
  (fun _ _ _ _ _ => false)
  (fun _ _ _ => false)
  (fun _ _ _ _ _ _ => false)
  ⟨⟩ (fun _ _ _ _ => ⟨⟩) v
noncomputable def ACt (v : V) : (Bool) -> Bool :=
 V.rec (motive_1 := fun _ => (Bool) -> Bool) (motive_2 := fun _ => PUnit)
  (fun _ => false)
  (fun _ _ _ _ => false)
  (fun a x => AHr x a)
  (fun _ _ _ => false)
  (fun _ => false)
  (fun _ _ _ => false)
  (fun _ _ _ => false)
  (fun _ => false)
  (fun _ _ _ _ _ _ => false)
  (fun _ _ _ _ _ => false)
  (fun _ _ _ _ _ _ => false)
  (fun _ => false)
  (fun _ _ => false)
  (fun _ => false)
  (fun _ _ _ _ _ _ => false)
  (fun _ _ _ => false)
  (fun _ _ _ => false)
  (fun _ => false)
  (fun _ _ _ _ => false)
  ⟨⟩ (fun _ _ _ _ => ⟨⟩) v
noncomputable def AEa (v : V) : (Nat) -> (Nat) -> Bool :=
 V.rec (motive_1 := fun _ => (Nat) -> (Nat) -> Bool) (motive_2 := fun _ => PUnit)
  (fun _ _ => false)
  (fun _ _ _ _ _ => false)
  (fun _ _ _ => false)
  (fun a b l m => band (Nat.beq l a) (Nat.beq m b))
  (fun _ _ => false)
  (fun _ _ _ _ => false)
  (fun _ _ _ _ => false)
  (fun _ _ => false)
  (fun _ _ _ _ _ _ _ => false)
  (fun _ _ _ _ _ _ => false)
  (fun _ _ _ _ _ _ _ => false)
  (fun _ _ => false)
  (fun _ _ _ => false)
  (fun _ _ => false)
  (fun _ _ _ _ _ _ _ => false)
  (fun _ _ _ _ => false)
  (fun _ _ _ _ => false)
  (fun _ _ => false)
  (fun _ _ _ _ _ => false)
  ⟨⟩ (fun _ _ _ _ => ⟨⟩) v
noncomputable def yx (v : V) : Bool :=
 V.rec (motive_1 := fun _ => Bool) (motive_2 := fun _ => PUnit)
  (false)
  (fun _ _ _ => false)
  (fun _ => false)
  (fun _ _ => false)
  (true)
  (fun _ _ => false)
  (fun _ _ => false)
  (false)
  (fun _ _ _ _ _ => false)
  (fun _ _ _ _ => false)
  (fun _ _ _ _ _ => false)
  (false)
  (fun _ => false)
  (false)
  (fun _ _ _ _ _ => false)
  (fun _ _ => false)
  (fun _ _ => false)
  (false)
  (fun _ _ _ => false)
  ⟨⟩ (fun _ _ _ _ => ⟨⟩) v
noncomputable def zT (v : V) : Bool :=
 V.rec (motive_1 := fun _ => Bool) (motive_2 := fun _ => PUnit)
  (false)
  (fun _ _ _ => false)
  (fun _ => false)
  (fun _ _ => false)
  (false)
  (fun _ _ => false)
  (fun _ _ => false)
  (true)
  (fun _ _ _ _ _ => false)
  (fun _ _ _ _ => false)
  (fun _ _ _ _ _ => false)
  (false)
  (fun _ => false)
  (false)
  (fun _ _ _ _ _ => false)
  (fun _ _ => false)
  (fun _ _ => false)
  (false)
  (fun _ _ _ => false)
  ⟨⟩ (fun _ _ _ _ => ⟨⟩) v
noncomputable def AAT (v : V) : Bool :=
 V.rec (motive_1 := fun _ => Bool) (motive_2 := fun _ => PUnit)
  (false)
  (fun _ _ _ => false)
  (fun _ => false)
  (fun _ _ => false)
  (false)
  (fun _ _ => false)
  (fun _ _ => false)
  (false)
  (fun _ _ _ _ _ => false)
  (fun _ _ _ _ => false)
  (fun _ _ _ _ _ => false)
  (true)
  (fun _ => false)
  (false)
  (fun _ _ _ _ _ => false)
  (fun _ _ => false)
  (fun _ _ => false)
  (false)
  (fun _ _ _ => false)
  ⟨⟩ (fun _ _ _ _ => ⟨⟩) v
noncomputable def zA (v : V) : Bool :=
 V.rec (motive_1 := fun _ => Bool) (motive_2 := fun _ => PUnit)
  (false)
  (fun _ _ _ => false)
  (fun _ => false)
  (fun _ _ => false)
  (false)
  (fun _ _ => false)
  (fun _ _ => false)
  (false)
  (fun _ _ _ _ _ => false)
  (fun _ _ _ _ => false)
  (fun _ _ _ _ _ => false)
  (false)
  (fun _ => false)
  (true)
  (fun _ _ _ _ _ => false)
  (fun _ _ => false)
  (fun _ _ => false)
  (false)
  (fun _ _ _ => false)
  ⟨⟩ (fun _ _ _ _ => ⟨⟩) v
noncomputable def AHb (v : V) : (Nat) -> (Nat) -> Bool :=
 V.rec (motive_1 := fun _ => (Nat) -> (Nat) -> Bool) (motive_2 := fun _ => PUnit)
  (fun _ _ => false)
  (fun _ _ _ _ _ => false)
  (fun _ _ _ => false)
  (fun _ _ _ _ => false)
  (fun _ _ => false)
  (fun a b l m => band (Nat.beq l a) (Nat.beq m b))
  (fun _ _ _ _ => false)
  (fun _ _ => false)
  (fun _ _ _ _ _ _ _ => false)
  (fun _ _ _ _ _ _ => false)
  (fun _ _ _ _ _ _ _ => false)
  (fun _ _ => false)
  (fun _ _ _ => false)
  (fun _ _ => false)
  (fun _ _ _ _ _ _ _ => false)
  (fun _ _ _ _ => false)
  (fun _ _ _ _ => false)
  (fun _ _ => false)
  (fun _ _ _ _ _ => false)
  ⟨⟩ (fun _ _ _ _ => ⟨⟩) v
noncomputable def ADU (v : V) : (Nat) -> (Nat) -> Bool :=
 V.rec (motive_1 := fun _ => (Nat) -> (Nat) -> Bool) (motive_2 := fun _ => PUnit)
  (fun _ _ => false)
  (fun _ _ _ _ _ => false)
  (fun _ _ _ => false)
  (fun _ _ _ _ => false)
  (fun _ _ => false)
  (fun _ _ _ _ => false)
  (fun a b l m => band (Nat.beq l a) (Nat.beq m b))
  (fun _ _ => false)
  (fun _ _ _ _ _ _ _ => false)
  (fun _ _ _ _ _ _ => false)
  (fun _ _ _ _ _ _ _ => false)
  (fun _ _ => false)
  (fun _ _ _ => false)
  (fun _ _ => false)
  (fun _ _ _ _ _ _ _ => false)
  (fun _ _ _ _ => false)
  (fun _ _ _ _ => false)
  (fun _ _ => false)
  (fun _ _ _ _ _ => false)
  ⟨⟩ (fun _ _ _ _ => ⟨⟩) v
noncomputable def AH5 (v : V) : (Nat) -> Bool :=
 V.rec (motive_1 := fun _ => (Nat) -> Bool) (motive_2 := fun _ => PUnit)
  (fun _ => false)
  (fun _ _ _ _ => false)
  (fun _ _ => false)
  (fun _ _ _ => false)
  (fun _ => false)
  (fun _ _ _ => false)
  (fun _ _ _ => false)
  (fun _ => false)
  (fun _ _ _ _ _ _ => false)
  (fun _ _ _ _ _ => false)
  (fun _ _ _ _ _ _ => false)
  (fun _ => false)
  (fun a l => Nat.beq l a)
  (fun _ => false)
  (fun _ _ _ _ _ _ => false)
  (fun _ _ _ => false)
  (fun _ _ _ => false)
  (fun _ => false)
  (fun _ _ _ _ => false)
  ⟨⟩ (fun _ _ _ _ => ⟨⟩) v
noncomputable def AIq (v : V) : (Nat) -> (Nat) -> (Nat) -> (Nat) -> (Nat) -> Bool :=
 V.rec (motive_1 := fun _ => (Nat) -> (Nat) -> (Nat) -> (Nat) -> (Nat) -> Bool) (motive_2 := fun _ => PUnit)
  (fun _ _ _ _ _ => false)
  (fun _ _ _ _ _ _ _ _ => false)
  (fun _ _ _ _ _ _ => false)
  (fun _ _ _ _ _ _ _ => false)
  (fun _ _ _ _ _ => false)
  (fun _ _ _ _ _ _ _ => false)
  (fun _ _ _ _ _ _ _ => false)
  (fun _ _ _ _ _ => false)
  (fun a b c d e i j k l m => band (Nat.beq i a) (band (Nat.beq j b) (band (Nat.beq k c) (band (Nat.beq l d) (Nat.beq m e)))))
  (fun _ _ _ _ _ _ _ _ _ => false)
  (fun _ _ _ _ _ _ _ _ _ _ => false)
  (fun _ _ _ _ _ => false)
  (fun _ _ _ _ _ _ => false)
  (fun _ _ _ _ _ => false)
  (fun _ _ _ _ _ _ _ _ _ _ => false)
  (fun _ _ _ _ _ _ _ => false)
  (fun _ _ _ _ _ _ _ => false)
  (fun _ _ _ _ _ => false)
  (fun _ _ _ _ _ _ _ _ => false)
  ⟨⟩ (fun _ _ _ _ => ⟨⟩) v
noncomputable def AER (v : V) : (Nat) -> (Nat) -> (Nat) -> (Nat) -> Bool :=
 V.rec (motive_1 := fun _ => (Nat) -> (Nat) -> (Nat) -> (Nat) -> Bool) (motive_2 := fun _ => PUnit)
  (fun _ _ _ _ => false)
  (fun _ _ _ _ _ _ _ => false)
  (fun _ _ _ _ _ => false)
  (fun _ _ _ _ _ _ => false)
  (fun _ _ _ _ => false)
  (fun _ _ _ _ _ _ => false)
  (fun _ _ _ _ _ _ => false)
  (fun _ _ _ _ => false)
  (fun _ _ _ _ _ _ _ _ _ => false)
  (fun a b c d i j k l => band (Nat.beq i a) (band (Nat.beq j b) (band (Nat.beq k c) (Nat.beq l d))))
  (fun _ _ _ _ _ _ _ _ _ => false)
  (fun _ _ _ _ => false)
  (fun _ _ _ _ _ => false)
  (fun _ _ _ _ => false)
  (fun _ _ _ _ _ _ _ _ _ => false)
  (fun _ _ _ _ _ _ => false)
  (fun _ _ _ _ _ _ => false)
  (fun _ _ _ _ => false)
  (fun _ _ _ _ _ _ _ => false)
  ⟨⟩ (fun _ _ _ _ => ⟨⟩) v
noncomputable def AHX (v : V) : (Nat) -> (Nat) -> (Nat) -> (Nat) -> (Nat) -> Bool :=
 V.rec (motive_1 := fun _ => (Nat) -> (Nat) -> (Nat) -> (Nat) -> (Nat) -> Bool) (motive_2 := fun _ => PUnit)
  (fun _ _ _ _ _ => false)
  (fun _ _ _ _ _ _ _ _ => false)
  (fun _ _ _ _ _ _ => false)
  (fun _ _ _ _ _ _ _ => false)
  (fun _ _ _ _ _ => false)
  (fun _ _ _ _ _ _ _ => false)
  (fun _ _ _ _ _ _ _ => false)
  (fun _ _ _ _ _ => false)
  (fun _ _ _ _ _ _ _ _ _ _ => false)
  (fun _ _ _ _ _ _ _ _ _ => false)
  (fun a b c d e i j k l m => band (Nat.beq i a) (band (Nat.beq j b) (band (Nat.beq k c) (band (Nat.beq l d) (Nat.beq m e)))))
  (fun _ _ _ _ _ => false)
  (fun _ _ _ _ _ _ => false)
  (fun _ _ _ _ _ => false)
  (fun _ _ _ _ _ _ _ _ _ _ => false)
  (fun _ _ _ _ _ _ _ => false)
  (fun _ _ _ _ _ _ _ => false)
  (fun _ _ _ _ _ => false)
  (fun _ _ _ _ _ _ _ _ => false)
  ⟨⟩ (fun _ _ _ _ => ⟨⟩) v
noncomputable def KO (v : V) : (V) -> Bool :=
 V.rec (motive_1 := fun _ => (V) -> Bool) (motive_2 := fun _ => PUnit)
  (fun _ => false)
  (fun a b c y => AEe y a b c)
  (fun a y => ACt y a)
  (fun a b y => AEa y a b)
  (fun y => yx y)
  (fun a b y => AHb y a b)
  (fun a b y => ADU y a b)
  (fun y => zT y)
  (fun a b c d e y => AIq y a b c d e)
  (fun a b c d y => AER y a b c d)
  (fun a b c d e y => AHX y a b c d e)
  (fun y => AAT y)
  (fun a y => AH5 y a)
  (fun y => zA y)
  (fun _ _ _ _ _ _ => false)
  (fun _ _ _ => false)
  (fun _ _ _ => false)
  (fun _ => false)
  (fun _ _ _ _ => false)
  ⟨⟩ (fun _ _ _ _ => ⟨⟩) v
noncomputable def oC (a : List V) : List V -> Bool :=
 List.rec (motive := fun _ => List V -> Bool) (fun b => List.rec (motive := fun _ => Bool) true (fun _ _ _ => false) b)
  (fun x _ g b => List.rec (motive := fun _ => Bool) false (fun y ys _ => band (KO x y) (g ys)) b) a
noncomputable def AKy (v : V) : (LV) -> Bool :=
 V.rec (motive_1 := fun _ => (LV) -> Bool) (motive_2 := fun _ => PUnit)
  (fun _ => false)
  (fun _ _ _ _ => false)
  (fun _ _ => false)
  (fun _ _ _ => false)
  (fun _ => false)
  (fun _ _ _ => false)
  (fun _ _ _ => false)
  (fun _ => false)
  (fun _ _ _ _ _ _ => false)
  (fun _ _ _ _ _ => false)
  (fun _ _ _ _ _ _ => false)
  (fun _ => false)
  (fun _ _ => false)
  (fun _ => false)
  (fun _ _ _ _ _ _ => false)
  (fun a _ l => oC l a)
  (fun _ _ _ => false)
  (fun _ => false)
  (fun _ _ _ _ => false)
  ⟨⟩ (fun _ _ _ _ => ⟨⟩) v
noncomputable def AKq (v : V) : (LV) -> Bool :=
 V.rec (motive_1 := fun _ => (LV) -> Bool) (motive_2 := fun _ => PUnit)
  (fun _ => false)
  (fun _ _ _ _ => false)
  (fun _ _ => false)
  (fun _ _ _ => false)
  (fun _ => false)
  (fun _ _ _ => false)
  (fun _ _ _ => false)
  (fun _ => false)
  (fun _ _ _ _ _ _ => false)
  (fun _ _ _ _ _ => false)
  (fun _ _ _ _ _ _ => false)
  (fun _ => false)
  (fun _ _ => false)
  (fun _ => false)
  (fun _ _ _ _ _ _ => false)
  (fun _ _ _ => false)
  (fun a _ l => oC l a)
  (fun _ => false)
  (fun _ _ _ _ => false)
  ⟨⟩ (fun _ _ _ _ => ⟨⟩) v
noncomputable def ABv (v : V) : Bool :=
 V.rec (motive_1 := fun _ => Bool) (motive_2 := fun _ => PUnit)
  (true)
  (fun _ _ _ => false)
  (fun _ => false)
  (fun _ _ => false)
  (false)
  (fun _ _ => false)
  (fun _ _ => false)
  (false)
  (fun _ _ _ _ _ => false)
  (fun _ _ _ _ => false)
  (fun _ _ _ _ _ => false)
  (false)
  (fun _ => false)
  (false)
  (fun _ _ _ _ _ => false)
  (fun _ _ => false)
  (fun _ _ => false)
  (false)
  (fun _ _ _ => false)
  ⟨⟩ (fun _ _ _ _ => ⟨⟩) v
noncomputable def Cj (v : V) : (V) -> Bool :=
 V.rec (motive_1 := fun _ => (V) -> Bool) (motive_2 := fun _ => PUnit)
  (fun y => ABv y)
  (fun a b c y => AEe y a b c)
  (fun a y => ACt y a)
  (fun a b y => AEa y a b)
  (fun y => yx y)
  (fun a b y => AHb y a b)
  (fun a b y => ADU y a b)
  (fun y => zT y)
  (fun a b c d e y => AIq y a b c d e)
  (fun a b c d y => AER y a b c d)
  (fun a b c d e y => AHX y a b c d e)
  (fun y => AAT y)
  (fun a y => AH5 y a)
  (fun y => zA y)
  (fun _ _ _ _ _ _ => false)
  (fun a _ y => AKy y a)
  (fun a _ y => AKq y a)
  (fun _ => false)
  (fun _ _ _ _ => false)
  ⟨⟩ (fun _ _ _ _ => ⟨⟩) v
inductive AI where
 | op (o : gK)
 | re (d : P2) (g : Gd) (o : AN)
inductive AC where
 | skip
 | ops (l : List gK)
 | reg (l : List AI)
 | seq (a b : AC)
 | cond (x : X) (a b : AC)
 | block (id : Nat) (c : AC)
 | loop (c : AC)
 | exit (id : Nat)
 | ret
noncomputable def Bd (l : List gK) : oO :=
 List.rec (motive := fun _ => oO) (fun _ _ R H n k => k R H n) (fun o _ g G call R H n k => o.ex G call R H n fun R H n => g G call R H n k) l
abbrev ReT := AP -> RS -> Heap -> P2 -> AN -> Prop -> Prop
noncomputable def APs : ReT := fun G R H d o k => AU (o.ev G R H) fun v => Gn (Cj v (KJ (T.DU d R.rg))) k
noncomputable def AS0 (x : X) (b : Bool) : ReT := fun G R H d o k => XV (x.ev R) b (AU (o.ev G R H) fun v => Gn (Cj v (KJ (T.DU d R.rg))) k) k
noncomputable def AM3 (g : Gd) : ReT := Gd.rec (motive := fun _ => ReT) APs AS0 g
noncomputable def AI.ex (i : AI) : oO := AI.rec (motive := fun _ => oO) (fun o => o.ex) (fun d g o G _ R H n k => AM3 g G R H d o (k R H n)) i
noncomputable def AY (l : List AI) : oO :=
 List.rec (motive := fun _ => oO) (fun _ _ R H n k => k R H n) (fun i _ g G call R H n k => i.ex G call R H n fun R H n => g G call R H n k) l
abbrev KX := Nat -> K
abbrev M := AP -> AQ -> Nat -> FY -> Heap -> Nat -> K -> KX -> K -> Prop
noncomputable def Bz : M := fun _ _ _ R H n k _ _ => k R H n
noncomputable def AJo (l : List gK) : M := fun G call _ R H n k _ _ => Bd l G call (.mk [] R) H n fun E H n => k E.rg H n
noncomputable def AJf (l : List AI) : M := fun G call _ R H n k _ _ => AY l G call (.mk [] R) H n fun E H n => k E.rg H n
noncomputable def AH2 (_ _ : AC) (a b : M) : M := fun G call lf R H n k x r => a G call lf R H n (fun R H n => b G call lf R H n k x r) x r
noncomputable def ABT (c : X) (_ _ : AC) (a b : M) : M := fun G call lf R H n k x r => Ac (c.ev (.mk [] R)) true (a G call lf R H n k x r) (b G call lf R H n k x r)
noncomputable def EC (id : Nat) (k : K) (x : KX) : KX := fun i R H n => Bool.rec (motive := fun _ => Prop -> Prop -> Prop) (fun a _ => a) (fun _ b => b) (Nat.beq i id) (x i R H n) (k R H n)
noncomputable def tX (id : Nat) (_ : AC) (a : M) : M := fun G call lf R H n k x r => a G call lf R H n k (EC id k x) r
noncomputable def S9 (a : M) (G : AP) (call : AQ) (lf0 lf : Nat) : FY -> Heap -> Nat -> KX -> K -> Prop :=
 Nat.rec (motive := fun _ => FY -> Heap -> Nat -> KX -> K -> Prop) (fun _ _ _ _ _ => False) (fun _ g R H n x r => a G call lf0 R H n (fun R H n => g R H n x r) x r) lf
noncomputable def AP6 (_ : AC) (a : M) : M := fun G call lf R H n _ x r => S9 a G call lf lf R H n x r
noncomputable def AF4 (id : Nat) : M := fun _ _ _ R H n _ x _ => x id R H n
noncomputable def AMZ : M := fun _ _ _ R H n _ _ r => r R H n
noncomputable def AC.ex (c : AC) : M := AC.rec (motive := fun _ => M) Bz AJo AJf AH2 ABT tX AP6 AF4 AMZ c
inductive AR where
 | tmp (p : P2) | cell1 (p : P2) | celln (p : P2) (n : Nat)
inductive AF where
 | mk (np : Nat) (code : AC) (res : List AR) (dp : Zn) (dg : Nat)
noncomputable def AR.get (r : AR) : AP -> FY -> Heap -> Option V :=
 AR.rec (motive := fun _ => AP -> FY -> Heap -> Option V) (fun p _ R _ => some (KJ (T.DU p R))) (fun p G R H => LX (lY (KJ (T.DU p R)) G H 1) fun L => nth L 0)
  (fun p n G R H => LX (lY (KJ (T.DU p R)) G H n) fun L => some (.agg L)) r
noncomputable def aT (l : List AR) : AP -> FY -> Heap -> Option LV :=
 List.rec (motive := fun _ => AP -> FY -> Heap -> Option LV) (fun _ _ _ => some []) (fun r _ g G R H => BK (r.get G R H) fun v => BK (g G R H) fun vs => some (v :: vs)) l
noncomputable def FB (l : List V) : V := List.rec (motive := fun _ => V) (V.Gh []) (fun v vs _ => List.rec (motive := fun _ => V) v (fun w ws _ => V.Gh (v :: w :: ws)) vs) l
noncomputable def XG (args : List V) : Nat -> FY -> FY :=
 List.rec (motive := fun _ => Nat -> FY -> FY) (fun _ R => R) (fun v _ g i R => g (Nat.succ i) (T.set R i v)) args
noncomputable def Js (dg : Nat) (l : List V) : AQ -> Heap -> Nat -> (Heap -> Nat -> Prop) -> Prop :=
 List.rec (motive := fun _ => AQ -> Heap -> Nat -> (Heap -> Nat -> Prop) -> Prop) (fun _ H n k => k H n)
  (fun v _ g call H n k => V.Ri v fun f a c => Gn (Nat.beq f dg) (call f (cat a c) H n fun _ H n => g call H n k)) l
noncomputable def qH (res : List AR) (G : AP) (k : KV) : K := fun R H n => FN (aT res G R H) fun l => k (FB l) H n
noncomputable def GR (res : List AR) (dg : Nat) (d : Zn) : AP -> AQ -> KV -> K :=
 Zn.rec (motive := fun _ => AP -> AQ -> KV -> K) (fun G _ k => qH res G k) (fun p G call k R H n => Js dg (cZ (KJ (T.DU p R))) call H n fun H n => qH res G k R H n) (fun G _ k => qH res G k) d
noncomputable def noX : KX := fun _ _ _ _ => False
noncomputable def fO (f : AF) : AP -> AQ -> Nat -> List V -> Heap -> Nat -> KV -> Prop :=
 AF.rec (motive := fun _ => AP -> AQ -> Nat -> List V -> Heap -> Nat -> KV -> Prop) (fun np code res d dg G call lf args H n k => Gn (Nat.beq (len args) np) (code.ex G call lf (XG args 0 .e) H n (GR res dg d G call k) noX (GR res dg d G call k))) f
noncomputable def run (F : T AF) (G : AP) (lf : Nat) (fuel : Nat) : AQ :=
 Nat.rec (motive := fun _ => AQ) (fun _ _ _ _ _ => False) (fun _ call f args H n k => FN (T.get F f) fun af => fO af G call lf args H n k) fuel
end Go.Eng
