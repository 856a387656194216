/- Part of a proof: texts En1 En2 of the engine and what is proved with it; nothing is assumed. -/
import Derived.Calls
import Derived.Defers
import Derived.Orders
import Derived.KernelRfl
import Derived.Laws.Entries
set_option linter.unusedVariables false
set_option linter.unusedSimpArgs false
namespace Go.Eng
inductive P2 where
 | h | z (p : P2) | o (p : P2)
deriving DecidableEq
inductive T (α : Type) where
 | e | n (v : Option α) (l r : T α)
noncomputable def T.val {α : Type} (t : T α) : Option α := T.rec none (fun v _ _ _ _ => v) t
noncomputable def T.left {α : Type} (t : T α) : T α := T.rec .e (fun _ l _ _ _ => l) t
noncomputable def T.right {α : Type} (t : T α) : T α := T.rec .e (fun _ _ r _ _ => r) t
noncomputable def T.DI {α : Type} (p : P2) : T α -> Option α :=
 P2.rec (motive := fun _ => T α -> Option α) T.val (fun _ g t => g t.left) (fun _ g t => g t.right) p
noncomputable def T.Ia {α : Type} (x : α) (p : P2) : T α -> T α :=
 P2.rec (motive := fun _ => T α -> T α) (fun t => .n (some x) t.left t.right)
  (fun _ g t => .n t.val (g t.left) t.right) (fun _ g t => .n t.val t.left (g t.right)) p
noncomputable def AEx (f : Nat) : Nat -> P2 :=
 Nat.rec (motive := fun _ => Nat -> P2) (fun _ => .h)
  (fun _ g k => Nat.rec (motive := fun _ => P2) .h
   (fun m _ => Bool.rec (P2.o (g (Nat.div m 2))) (P2.z (g (Nat.div m 2))) (Nat.beq (Nat.mod m 2) 0)) k) f
noncomputable def Ld (k : Nat) : P2 := AEx (Nat.succ k) k
noncomputable def T.get {α : Type} (t : T α) (k : Nat) : Option α := T.DI (Ld k) t
noncomputable def T.set {α : Type} (t : T α) (k : Nat) (x : α) : T α := T.Ia x (Ld k) t
inductive V where
 | undef
 | int (k : IntKind) (n : Int) (s : Nat)
 | bool (b : Bool)
 | str (len code : Nat)
 | ABP | ptr (id off : Nat) | gptr (b off : Nat)
 | Ag | sl (id off len cap esz : Nat) | NW (id off len esz : Nat) | rsl (b off len cap esz : Nat)
 | AJb | map (id : Nat)
 | AJh | fn (f : Nat) (first caps : List V)
 | agg (cs : List V)
 | GK (vs : List V)
 | AKJ | iface (t : Nat) (v : V)
inductive Np where
 | arr (esz cnt : Nat) (c : T (List V))
 | map (es : List (V × V × Nat)) (clock : Nat)
 | dead
abbrev Heap := T Np
abbrev FM := T V
abbrev AP := Nat -> Nat -> Nat -> Option (List V)
inductive X where
 | r (p : P2) | c (v : V) | s (i : Nat)
noncomputable def Jw (o : Option V) : V := Option.rec V.undef (fun v => v) o
noncomputable def AHR (l : List V) : Nat -> V :=
 List.rec (motive := fun _ => Nat -> V) (fun _ => .undef) (fun x _ g i => Nat.rec (motive := fun _ => V) x (fun i _ => g i) i) l
inductive RS where
 | mk (L : List V) (R : FM)
noncomputable def RS.st (E : RS) : List V := RS.rec (fun L _ => L) E
noncomputable def RS.rg (E : RS) : FM := RS.rec (fun _ R => R) E
noncomputable def X.ev (x : X) : RS -> V := X.rec (motive := fun _ => RS -> V) (fun p E => Jw (T.DI p E.rg)) (fun v _ => v) (fun i E => AHR E.st i) x
noncomputable def V.Em (v : V) : (IntKind -> Int -> Nat -> Option V) -> Option V :=
 V.rec (motive_1 := fun _ => (IntKind -> Int -> Nat -> Option V) -> Option V) (motive_2 := fun _ => PUnit)
  (fun _ => none)
  (fun a b c f => f a b c)
  (fun _ _ => none)
  (fun _ _ _ => none)
  (fun _ => none)
  (fun _ _ _ => none)
  (fun _ _ _ => none)
  (fun _ => none)
  (fun _ _ _ _ _ _ => none)
  (fun _ _ _ _ _ => none)
  (fun _ _ _ _ _ _ => none)
  (fun _ => none)
  (fun _ _ => none)
  (fun _ => none)
  (fun _ _ _ _ _ _ => none)
  (fun _ _ _ => none)
  (fun _ _ _ => none)
  (fun _ => none)
  (fun _ _ _ _ => none)
  ⟨⟩ (fun _ _ _ _ => ⟨⟩) v
noncomputable def V.aB (v : V) : (Bool -> Option V) -> Option V :=
 V.rec (motive_1 := fun _ => (Bool -> Option V) -> Option V) (motive_2 := fun _ => PUnit)
  (fun _ => none)
  (fun _ _ _ _ => none)
  (fun a f => f a)
  (fun _ _ _ => none)
  (fun _ => none)
  (fun _ _ _ => none)
  (fun _ _ _ => none)
  (fun _ => none)
  (fun _ _ _ _ _ _ => none)
  (fun _ _ _ _ _ => none)
  (fun _ _ _ _ _ _ => none)
  (fun _ => none)
  (fun _ _ => none)
  (fun _ => none)
  (fun _ _ _ _ _ _ => none)
  (fun _ _ _ => none)
  (fun _ _ _ => none)
  (fun _ => none)
  (fun _ _ _ _ => none)
  ⟨⟩ (fun _ _ _ _ => ⟨⟩) v
noncomputable def V.yS (v : V) : (Bool -> Prop) -> Prop :=
 V.rec (motive_1 := fun _ => (Bool -> Prop) -> Prop) (motive_2 := fun _ => PUnit)
  (fun _ => False)
  (fun _ _ _ _ => False)
  (fun a f => f a)
  (fun _ _ _ => False)
  (fun _ => False)
  (fun _ _ _ => False)
  (fun _ _ _ => False)
  (fun _ => False)
  (fun _ _ _ _ _ _ => False)
  (fun _ _ _ _ _ => False)
  (fun _ _ _ _ _ _ => False)
  (fun _ => False)
  (fun _ _ => False)
  (fun _ => False)
  (fun _ _ _ _ _ _ => False)
  (fun _ _ _ => False)
  (fun _ _ _ => False)
  (fun _ => False)
  (fun _ _ _ _ => False)
  ⟨⟩ (fun _ _ _ _ => ⟨⟩) v
noncomputable def V.OO (v : V) : (Nat -> Nat -> Option V) -> Option V :=
 V.rec (motive_1 := fun _ => (Nat -> Nat -> Option V) -> Option V) (motive_2 := fun _ => PUnit)
  (fun _ => none)
  (fun _ _ _ _ => none)
  (fun _ _ => none)
  (fun a b f => f a b)
  (fun _ => none)
  (fun _ _ _ => none)
  (fun _ _ _ => none)
  (fun _ => none)
  (fun _ _ _ _ _ _ => none)
  (fun _ _ _ _ _ => none)
  (fun _ _ _ _ _ _ => none)
  (fun _ => none)
  (fun _ _ => none)
  (fun _ => none)
  (fun _ _ _ _ _ _ => none)
  (fun _ _ _ => none)
  (fun _ _ _ => none)
  (fun _ => none)
  (fun _ _ _ _ => none)
  ⟨⟩ (fun _ _ _ _ => ⟨⟩) v
noncomputable def V.au (v : V) : (List V -> Option V) -> Option V :=
 V.rec (motive_1 := fun _ => (List V -> Option V) -> Option V) (motive_2 := fun _ => PUnit)
  (fun _ => none)
  (fun _ _ _ _ => none)
  (fun _ _ => none)
  (fun _ _ _ => none)
  (fun _ => none)
  (fun _ _ _ => none)
  (fun _ _ _ => none)
  (fun _ => none)
  (fun _ _ _ _ _ _ => none)
  (fun _ _ _ _ _ => none)
  (fun _ _ _ _ _ _ => none)
  (fun _ => none)
  (fun _ _ => none)
  (fun _ => none)
  (fun _ _ _ _ _ _ => none)
  (fun a _ f => f a)
  (fun _ _ _ => none)
  (fun _ => none)
  (fun _ _ _ _ => none)
  ⟨⟩ (fun _ _ _ _ => ⟨⟩) v
noncomputable def V.AAn (v : V) : (List V -> Option V) -> Option V :=
 V.rec (motive_1 := fun _ => (List V -> Option V) -> Option V) (motive_2 := fun _ => PUnit)
  (fun _ => none)
  (fun _ _ _ _ => none)
  (fun _ _ => none)
  (fun _ _ _ => none)
  (fun _ => none)
  (fun _ _ _ => none)
  (fun _ _ _ => none)
  (fun _ => none)
  (fun _ _ _ _ _ _ => none)
  (fun _ _ _ _ _ => none)
  (fun _ _ _ _ _ _ => none)
  (fun _ => none)
  (fun _ _ => none)
  (fun _ => none)
  (fun _ _ _ _ _ _ => none)
  (fun _ _ _ => none)
  (fun a _ f => f a)
  (fun _ => none)
  (fun _ _ _ _ => none)
  ⟨⟩ (fun _ _ _ _ => ⟨⟩) v
noncomputable def V.xq (v : V) : (Nat -> Nat -> Option V) -> (Nat -> Nat -> Option V) -> Option V :=
 V.rec (motive_1 := fun _ => (Nat -> Nat -> Option V) -> (Nat -> Nat -> Option V) -> Option V) (motive_2 := fun _ => PUnit)
  (fun _ _ => none)
  (fun _ _ _ _ _ => none)
  (fun _ _ _ => none)
  (fun _ _ _ _ => none)
  (fun _ _ => none)
  (fun a b f _ => f a b)
  (fun a b _ g => g a b)
  (fun _ _ => none)
  (fun _ _ _ _ _ _ _ => none)
  (fun _ _ _ _ _ _ => none)
  (fun _ _ _ _ _ _ _ => none)
  (fun _ _ => none)
  (fun _ _ _ => none)
  (fun _ _ => none)
  (fun _ _ _ _ _ _ _ => none)
  (fun _ _ _ _ => none)
  (fun _ _ _ _ => none)
  (fun _ _ => none)
  (fun _ _ _ _ _ => none)
  ⟨⟩ (fun _ _ _ _ => ⟨⟩) v
noncomputable def V.ADC (v : V) : (Option V) -> (Nat -> Option V) -> Option V :=
 V.rec (motive_1 := fun _ => (Option V) -> (Nat -> Option V) -> Option V) (motive_2 := fun _ => PUnit)
  (fun _ _ => none)
  (fun _ _ _ _ _ => none)
  (fun _ _ _ => none)
  (fun _ _ _ _ => none)
  (fun _ _ => none)
  (fun _ _ _ _ => none)
  (fun _ _ _ _ => none)
  (fun _ _ => none)
  (fun _ _ _ _ _ _ _ => none)
  (fun _ _ _ _ _ _ => none)
  (fun _ _ _ _ _ _ _ => none)
  (fun z _ => z)
  (fun a _ f => f a)
  (fun _ _ => none)
  (fun _ _ _ _ _ _ _ => none)
  (fun _ _ _ _ => none)
  (fun _ _ _ _ => none)
  (fun _ _ => none)
  (fun _ _ _ _ _ => none)
  ⟨⟩ (fun _ _ _ _ => ⟨⟩) v
noncomputable def V.AH3 (v : V) : (Option V) -> (Nat -> Nat -> Nat -> Nat -> Nat -> Option V) -> (Nat -> Nat -> Nat -> Nat -> Option V) -> (Nat -> Nat -> Nat -> Nat -> Nat -> Option V) -> Option V :=
 V.rec (motive_1 := fun _ => (Option V) -> (Nat -> Nat -> Nat -> Nat -> Nat -> Option V) -> (Nat -> Nat -> Nat -> Nat -> Option V) -> (Nat -> Nat -> Nat -> Nat -> Nat -> Option V) -> Option V) (motive_2 := fun _ => PUnit)
  (fun _ _ _ _ => none)
  (fun _ _ _ _ _ _ _ => none)
  (fun _ _ _ _ _ => none)
  (fun _ _ _ _ _ _ => none)
  (fun _ _ _ _ => none)
  (fun _ _ _ _ _ _ => none)
  (fun _ _ _ _ _ _ => none)
  (fun z _ _ _ => z)
  (fun a b c d e _ f _ _ => f a b c d e)
  (fun a b c d _ _ g _ => g a b c d)
  (fun a b c d e _ _ _ h => h a b c d e)
  (fun _ _ _ _ => none)
  (fun _ _ _ _ _ => none)
  (fun _ _ _ _ => none)
  (fun _ _ _ _ _ _ _ _ _ => none)
  (fun _ _ _ _ _ _ => none)
  (fun _ _ _ _ _ _ => none)
  (fun _ _ _ _ => none)
  (fun _ _ _ _ _ _ _ => none)
  ⟨⟩ (fun _ _ _ _ => ⟨⟩) v
noncomputable def BK (v : V) : List V :=
 V.rec (motive_1 := fun _ => List V) (motive_2 := fun _ => PUnit)
  ([v])
  (fun _ _ _ => [v])
  (fun _ => [v])
  (fun _ _ => [v])
  ([v])
  (fun _ _ => [v])
  (fun _ _ => [v])
  ([v])
  (fun _ _ _ _ _ => [v])
  (fun _ _ _ _ => [v])
  (fun _ _ _ _ _ => [v])
  ([v])
  (fun _ => [v])
  ([v])
  (fun _ _ _ _ _ => [v])
  (fun a _ => a)
  (fun _ _ => [v])
  ([v])
  (fun _ _ _ => [v])
  ⟨⟩ (fun _ _ _ _ => ⟨⟩) v
noncomputable def isStr (v : V) : Bool :=
 V.rec (motive_1 := fun _ => Bool) (motive_2 := fun _ => PUnit)
  (false)
  (fun _ _ _ => false)
  (fun _ => false)
  (fun _ _ => true)
  (false)
  (fun _ _ => false)
  (fun _ _ => false)
  (false)
  (fun _ _ _ _ _ => false)
  (fun _ _ _ _ => false)
  (fun _ _ _ _ _ => false)
  (false)
  (fun _ => false)
  (false)
  (fun _ _ _ _ _ => false)
  (fun _ _ => false)
  (fun _ _ => false)
  (false)
  (fun _ _ _ => false)
  ⟨⟩ (fun _ _ _ _ => ⟨⟩) v
noncomputable def lenV (v : V) : Option V :=
 V.rec (motive_1 := fun _ => Option V) (motive_2 := fun _ => PUnit)
  (none)
  (fun _ _ _ => none)
  (fun _ => none)
  (fun _ _ => none)
  (none)
  (fun _ _ => none)
  (fun _ _ => none)
  (some (.int .i64 (.ofNat 0) 0))
  (fun _ _ c _ _ => some (.int .i64 (.ofNat c) 0))
  (fun _ _ c _ => some (.int .i64 (.ofNat c) 0))
  (fun _ _ c _ _ => some (.int .i64 (.ofNat c) 0))
  (none)
  (fun _ => none)
  (none)
  (fun _ _ _ _ _ => none)
  (fun _ _ => none)
  (fun _ _ => none)
  (none)
  (fun _ _ _ => none)
  ⟨⟩ (fun _ _ _ _ => ⟨⟩) v
noncomputable def A8 (v : V) : Option V :=
 V.rec (motive_1 := fun _ => Option V) (motive_2 := fun _ => PUnit)
  (none)
  (fun _ _ _ => none)
  (fun _ => none)
  (fun _ _ => none)
  (none)
  (fun a b => some (.ptr a b))
  (fun a b => some (.gptr a b))
  (none)
  (fun _ _ _ _ _ => none)
  (fun _ _ _ _ => none)
  (fun _ _ _ _ _ => none)
  (none)
  (fun _ => none)
  (none)
  (fun a b c _ _ => some (.fn a b c))
  (fun _ _ => none)
  (fun _ _ => none)
  (none)
  (fun _ _ _ => none)
  ⟨⟩ (fun _ _ _ _ => ⟨⟩) v
noncomputable def Iy (n : Int) : (Int -> Option V) -> Option V := fun f => f n
noncomputable def CQ (n : Nat) : (Nat -> Option V) -> Option V :=
 Nat.rec (motive := fun _ => (Nat -> Option V) -> Option V) (fun f => f 0) (fun k _ f => f (Nat.succ k)) n
noncomputable def Cj (n : Nat) : (Nat -> Prop) -> Prop :=
 Nat.rec (motive := fun _ => (Nat -> Prop) -> Prop) (fun f => f 0) (fun k _ f => f (Nat.succ k)) n
noncomputable def AOd (k : IntKind) : Nat -> Bool :=
 IntKind.rec (motive := fun _ => Nat -> Bool) (fun m => Nat.blt m 128) (fun m => Nat.blt m 32768) (fun m => Nat.blt m 2147483648) (fun m => Nat.blt m 9223372036854775808)
  (fun m => Nat.blt m 256) (fun m => Nat.blt m 65536) (fun m => Nat.blt m 4294967296) (fun m => Nat.blt m 18446744073709551616) k
noncomputable def APq (k : IntKind) : Nat -> Bool :=
 IntKind.rec (motive := fun _ => Nat -> Bool) (fun m => Nat.blt m 128) (fun m => Nat.blt m 32768) (fun m => Nat.blt m 2147483648) (fun m => Nat.blt m 9223372036854775808)
  (fun _ => false) (fun _ => false) (fun _ => false) (fun _ => false) k
noncomputable def inr (k : IntKind) (n : Int) : Bool := Int.rec (motive := fun _ => IntKind -> Bool) (fun m k => AOd k m) (fun m k => APq k m) n k
noncomputable def PY (k : IntKind) (n : Int) : Int := Bool.rec (k.wrap n) n (inr k n)
noncomputable def AMa (k : IntKind) (n : Int) : Option V := Iy (PY k n) fun m => some (.int k m 0)
noncomputable def mkI (k : IntKind) (n : Int) (s : Nat) : Option V :=
 Nat.rec (motive := fun _ => IntKind -> Int -> Option V) AMa (fun _ _ k n => some (.int k (k.wrap n) 1)) s k n
noncomputable def mkN (k : IntKind) (n : Int) (s : Nat) : Option V :=
 Nat.rec (motive := fun _ => IntKind -> Int -> Option V) (fun k n => Iy n fun m => some (.int k m 0)) (fun _ _ k n => some (.int k n 1)) s k n
noncomputable def AKT (a : Nat) (b : Int) : Int := Int.rec (motive := fun _ => Nat -> Int) (fun n m => .ofNat (Nat.add m n)) (fun n m => Int.subNatNat m (Nat.succ n)) b a
noncomputable def AKs (a : Nat) (b : Int) : Int := Int.rec (motive := fun _ => Nat -> Int) (fun n m => Int.subNatNat n (Nat.succ m)) (fun n m => .negSucc (Nat.succ (Nat.add m n))) b a
noncomputable def vT (a b : Int) : Int := Int.rec (motive := fun _ => Int -> Int) AKT AKs a b
noncomputable def ile (a b : Int) : Bool := Int.rec (motive := fun _ => Int -> Bool) (fun m b => Int.rec (motive := fun _ => Nat -> Bool) (fun n m => Nat.ble m n) (fun _ _ => false) b m)
 (fun m b => Int.rec (motive := fun _ => Nat -> Bool) (fun _ _ => true) (fun n m => Nat.ble n m) b m) a b
noncomputable def ilt (a b : Int) : Bool := Int.rec (motive := fun _ => Int -> Bool) (fun m b => Int.rec (motive := fun _ => Nat -> Bool) (fun n m => Nat.blt m n) (fun _ _ => false) b m)
 (fun m b => Int.rec (motive := fun _ => Nat -> Bool) (fun _ _ => true) (fun n m => Nat.blt n m) b m) a b
noncomputable def ieq (a b : Int) : Bool := Int.rec (motive := fun _ => Int -> Bool) (fun m b => Int.rec (motive := fun _ => Nat -> Bool) (fun n m => Nat.beq m n) (fun _ _ => false) b m)
 (fun m b => Int.rec (motive := fun _ => Nat -> Bool) (fun _ _ => false) (fun n m => Nat.beq n m) b m) a b
noncomputable def kno (a : IntKind) : Nat := IntKind.rec 0 1 2 3 4 5 6 7 a
noncomputable def keq (a b : IntKind) : Bool := Nat.beq (kno a) (kno b)
noncomputable def UL (b : Bool) : Bool := Bool.rec true false b
noncomputable def band (a b : Bool) : Bool := Bool.rec (motive := fun _ => Bool -> Bool) (fun _ => false) (fun b => b) a b
noncomputable def AGf (a b : Bool) : Bool := Bool.rec (motive := fun _ => Bool -> Bool) UL (fun b => b) a b
noncomputable def mkB (b : Bool) : Option V := Bool.rec (some (.bool false)) (some (.bool true)) b
noncomputable def Aq (b : Bool) : Option V -> Option V := Bool.rec (motive := fun _ => Option V -> Option V) (fun _ => none) (fun o => o) b
noncomputable def mg (b : Bool) (x y : Option V) : Option V := Bool.rec (motive := fun _ => Option V -> Option V -> Option V) (fun _ y => y) (fun x _ => x) b x y
noncomputable def AEu (code i : Nat) : Nat := Nat.mod (Nat.div code (Nat.pow 256 i)) 256
noncomputable def AFk (code l h : Nat) : Nat := Nat.mod (Nat.div code (Nat.pow 256 l)) (Nat.pow 256 (Nat.sub h l))
noncomputable def ANT (l1 c1 c2 : Nat) : Nat := Nat.add c1 (Nat.mul (Nat.pow 256 l1) c2)
noncomputable def ALC (f : Nat) : Nat -> Nat -> Nat -> Nat -> Bool :=
 Nat.rec (motive := fun _ => Nat -> Nat -> Nat -> Nat -> Bool) (fun _ _ _ _ => false)
  (fun _ g l1 c1 l2 c2 => Nat.rec (motive := fun _ => Bool) false (fun l2' _ => Nat.rec (motive := fun _ => Bool) true (fun l1' _ =>
   Bool.rec (Nat.blt (Nat.mod c1 256) (Nat.mod c2 256)) (g l1' (Nat.div c1 256) l2' (Nat.div c2 256)) (Nat.beq (Nat.mod c1 256) (Nat.mod c2 256))) l1) l2) f
noncomputable def slt (l1 c1 l2 c2 : Nat) : Bool := ALC (Nat.succ l2) l1 c1 l2 c2
noncomputable def nth {α : Type} (l : List α) : Nat -> Option α :=
 List.rec (motive := fun _ => Nat -> Option α) (fun _ => none) (fun x _ g i => Nat.rec (motive := fun _ => Option α) (some x) (fun i _ => g i) i) l
noncomputable def YS {α : Type} (x : α) (l : List α) : Nat -> List α :=
 List.rec (motive := fun _ => Nat -> List α) (fun _ => []) (fun y ys g i => Nat.rec (motive := fun _ => List α) (x :: ys) (fun i _ => y :: g i) i) l
noncomputable def len {α : Type} (l : List α) : Nat := List.rec (motive := fun _ => Nat) 0 (fun _ _ n => Nat.succ n) l
noncomputable def cat {α : Type} (a b : List α) : List α := List.rec (motive := fun _ => List α -> List α) (fun b => b) (fun x _ g b => x :: g b) a b
noncomputable def TT {α : Type} (n : Nat) : List α -> List α :=
 Nat.rec (motive := fun _ => List α -> List α) (fun _ => []) (fun _ g l => List.rec (motive := fun _ => List α) [] (fun x xs _ => x :: g xs) l) n
noncomputable def YA {α : Type} (n : Nat) : List α -> List α :=
 Nat.rec (motive := fun _ => List α -> List α) (fun l => l) (fun _ g l => List.rec (motive := fun _ => List α) [] (fun _ xs _ => g xs) l) n
noncomputable def Qm (l : List X) : RS -> List V := List.rec (motive := fun _ => RS -> List V) (fun _ => []) (fun x _ g R => x.ev R :: g R) l
noncomputable def ABX (new : List V) (i : Nat) (l : List V) : List V := cat (TT i l) (cat new (YA (Nat.add i (len new)) l))
abbrev LV := List V
noncomputable def AKm (o : Option V) (f : V -> Option V) : Option V := Option.rec (motive := fun _ => (V -> Option V) -> Option V) (fun _ => none) (fun v f => f v) o f
noncomputable def Ku (o : Option LV) (f : LV -> Option V) : Option V := Option.rec (motive := fun _ => (LV -> Option V) -> Option V) (fun _ => none) (fun v f => f v) o f
noncomputable def Es {α : Type} (o : Option α) (f : α -> Prop) : Prop := Option.rec (motive := fun _ => (α -> Prop) -> Prop) (fun _ => False) (fun v f => f v) o f
noncomputable def AU (o : Option V) (f : V -> Prop) : Prop := Option.rec (motive := fun _ => (V -> Prop) -> Prop) (fun _ => False) (fun v f => f v) o f
noncomputable def BG {α β : Type} (o : Option α) (f : α -> Option β) : Option β := Option.rec (motive := fun _ => (α -> Option β) -> Option β) (fun _ => none) (fun v f => f v) o f
noncomputable def ldC (esz off n : Nat) (L : LV) : Option LV :=
  Bool.rec (motive := fun _ => Option LV)
      (Bool.rec none (some (TT n (YA (Nat.mod off esz) L))) (Nat.ble (Nat.add (Nat.mod off esz) n) esz))
      (some L) (band (Nat.beq n esz) (Nat.beq (Nat.mod off esz) 0))
noncomputable def ldB (esz cnt : Nat) (c : T LV) (off n : Nat) : Option LV :=
 BG (Bool.rec none (T.get c (Nat.div off esz)) (Nat.blt (Nat.div off esz) cnt)) (ldC esz off n)
noncomputable def Np.ld (b : Np) : Nat -> Nat -> Option LV :=
 Np.rec (motive := fun _ => Nat -> Nat -> Option LV) ldB (fun _ _ _ _ => none) (fun _ _ => none) b
noncomputable def ZI (H : Heap) (id off n : Nat) : Option LV := Option.rec (motive := fun _ => Nat -> Nat -> Option LV) (fun _ _ => none) Np.ld (T.get H id) off n
noncomputable def lH (v : V) : (AP) -> (Heap) -> (Nat) -> Option LV :=
 V.rec (motive_1 := fun _ => (AP) -> (Heap) -> (Nat) -> Option LV) (motive_2 := fun _ => PUnit)
  (fun _ _ _ => none)
  (fun _ _ _ _ _ _ => none)
  (fun _ _ _ _ => none)
  (fun _ _ _ _ _ => none)
  (fun _ _ _ => none)
  (fun a b _ H n => ZI H a b n)
  (fun a b G _ n => G a b n)
  (fun _ _ _ => none)
  (fun _ _ _ _ _ _ _ _ => none)
  (fun _ _ _ _ _ _ _ => none)
  (fun _ _ _ _ _ _ _ _ => none)
  (fun _ _ _ => none)
  (fun _ _ _ _ => none)
  (fun _ _ _ => none)
  (fun _ _ _ _ _ _ _ _ => none)
  (fun _ _ _ _ _ => none)
  (fun _ _ _ _ _ => none)
  (fun _ _ _ => none)
  (fun _ _ _ _ _ _ => none)
  ⟨⟩ (fun _ _ _ _ => ⟨⟩) v
noncomputable def vO (new : LV) (esz cnt : Nat) (c : T LV) (off n : Nat) (L : LV) : Option Np :=
  Bool.rec (motive := fun _ => Option Np)
      (Bool.rec none (some (.arr esz cnt (T.set c (Nat.div off esz) (ABX new (Nat.mod off esz) L)))) (Nat.ble (Nat.add (Nat.mod off esz) n) esz))
      (some (.arr esz cnt (T.set c (Nat.div off esz) new))) (band (Nat.beq n esz) (Nat.beq (Nat.mod off esz) 0))
noncomputable def stB (esz cnt : Nat) (c : T LV) (off n : Nat) (new : LV) : Option Np :=
 BG (Bool.rec none (T.get c (Nat.div off esz)) (Nat.blt (Nat.div off esz) cnt)) (vO new esz cnt c off n)
noncomputable def Np.st (b : Np) : Nat -> Nat -> LV -> Option Np :=
 Np.rec (motive := fun _ => Nat -> Nat -> LV -> Option Np) stB (fun _ _ _ _ _ => none) (fun _ _ _ => none) b
noncomputable def stH (H : Heap) (id off n : Nat) (new : LV) : Option Heap :=
 BG (Option.rec (motive := fun _ => Nat -> Nat -> LV -> Option Np) (fun _ _ _ => none) Np.st (T.get H id) off n new) fun b => some (T.set H id b)
noncomputable def stP (v : V) : (Heap) -> (Nat) -> (LV) -> Option Heap :=
 V.rec (motive_1 := fun _ => (Heap) -> (Nat) -> (LV) -> Option Heap) (motive_2 := fun _ => PUnit)
  (fun _ _ _ => none)
  (fun _ _ _ _ _ _ => none)
  (fun _ _ _ _ => none)
  (fun _ _ _ _ _ => none)
  (fun _ _ _ => none)
  (fun a b H n new => stH H a b n new)
  (fun _ _ _ _ _ => none)
  (fun _ _ _ => none)
  (fun _ _ _ _ _ _ _ _ => none)
  (fun _ _ _ _ _ _ _ => none)
  (fun _ _ _ _ _ _ _ _ => none)
  (fun _ _ _ => none)
  (fun _ _ _ _ => none)
  (fun _ _ _ => none)
  (fun _ _ _ _ _ _ _ _ => none)
  (fun _ _ _ _ _ => none)
  (fun _ _ _ _ _ => none)
  (fun _ _ _ => none)
  (fun _ _ _ _ _ _ => none)
  ⟨⟩ (fun _ _ _ _ => ⟨⟩) v
noncomputable def AFe (v : V) : (IntKind) -> (Int) -> (Nat) -> Option Bool :=
 V.rec (motive_1 := fun _ => (IntKind) -> (Int) -> (Nat) -> Option Bool) (motive_2 := fun _ => PUnit)
  (fun _ _ _ => none)
  (fun a b c k n s => Bool.rec (motive := fun _ => Option Bool) none (some (ieq n b)) (band (keq k a) (Nat.beq (Nat.add s c) 0)))
  (fun _ _ _ _ => none)
  (fun _ _ _ _ _ => none)
  (fun _ _ _ => none)
  (fun _ _ _ _ _ => none)
  (fun _ _ _ _ _ => none)
  (fun _ _ _ => none)
  (fun _ _ _ _ _ _ _ _ => none)
  (fun _ _ _ _ _ _ _ => none)
  (fun _ _ _ _ _ _ _ _ => none)
  (fun _ _ _ => none)
  (fun _ _ _ _ => none)
  (fun _ _ _ => none)
  (fun _ _ _ _ _ _ _ _ => none)
  (fun _ _ _ _ _ => none)
  (fun _ _ _ _ _ => none)
  (fun _ _ _ => none)
  (fun _ _ _ _ _ _ => none)
  ⟨⟩ (fun _ _ _ _ => ⟨⟩) v
noncomputable def ACK (v : V) : (Bool) -> Option Bool :=
 V.rec (motive_1 := fun _ => (Bool) -> Option Bool) (motive_2 := fun _ => PUnit)
  (fun _ => none)
  (fun _ _ _ _ => none)
  (fun a x => some (AGf x a))
  (fun _ _ _ => none)
  (fun _ => none)
  (fun _ _ _ => none)
  (fun _ _ _ => none)
  (fun _ => none)
  (fun _ _ _ _ _ _ => none)
  (fun _ _ _ _ _ => none)
  (fun _ _ _ _ _ _ => none)
  (fun _ => none)
  (fun _ _ => none)
  (fun _ => none)
  (fun _ _ _ _ _ _ => none)
  (fun _ _ _ => none)
  (fun _ _ _ => none)
  (fun _ => none)
  (fun _ _ _ _ => none)
  ⟨⟩ (fun _ _ _ _ => ⟨⟩) v
noncomputable def eqStr (v : V) : (Nat) -> (Nat) -> Option Bool :=
 V.rec (motive_1 := fun _ => (Nat) -> (Nat) -> Option Bool) (motive_2 := fun _ => PUnit)
  (fun _ _ => none)
  (fun _ _ _ _ _ => none)
  (fun _ _ _ => none)
  (fun a b l d => some (band (Nat.beq l a) (Nat.beq d b)))
  (fun _ _ => none)
  (fun _ _ _ _ => none)
  (fun _ _ _ _ => none)
  (fun _ _ => none)
  (fun _ _ _ _ _ _ _ => none)
  (fun _ _ _ _ _ _ => none)
  (fun _ _ _ _ _ _ _ => none)
  (fun _ _ => none)
  (fun _ _ _ => none)
  (fun _ _ => none)
  (fun _ _ _ _ _ _ _ => none)
  (fun _ _ _ _ => none)
  (fun _ _ _ _ => none)
  (fun _ _ => none)
  (fun _ _ _ _ _ => none)
  ⟨⟩ (fun _ _ _ _ => ⟨⟩) v
noncomputable def AF7 (v : V) : Option Bool :=
 V.rec (motive_1 := fun _ => Option Bool) (motive_2 := fun _ => PUnit)
  (none)
  (fun _ _ _ => none)
  (fun _ => none)
  (fun _ _ => none)
  (some true)
  (fun _ _ => some false)
  (fun _ _ => some false)
  (none)
  (fun _ _ _ _ _ => none)
  (fun _ _ _ _ => none)
  (fun _ _ _ _ _ => none)
  (none)
  (fun _ => none)
  (none)
  (fun _ _ _ _ _ => none)
  (fun _ _ => none)
  (fun _ _ => none)
  (none)
  (fun _ _ _ => none)
  ⟨⟩ (fun _ _ _ _ => ⟨⟩) v
noncomputable def AKe (v : V) : (Nat) -> (Nat) -> Option Bool :=
 V.rec (motive_1 := fun _ => (Nat) -> (Nat) -> Option Bool) (motive_2 := fun _ => PUnit)
  (fun _ _ => none)
  (fun _ _ _ _ _ => none)
  (fun _ _ _ => none)
  (fun _ _ _ _ => none)
  (fun _ _ => some false)
  (fun a b i o => Bool.rec none (some (Nat.beq o b)) (Nat.beq i a))
  (fun _ _ _ _ => none)
  (fun _ _ => none)
  (fun _ _ _ _ _ _ _ => none)
  (fun _ _ _ _ _ _ => none)
  (fun _ _ _ _ _ _ _ => none)
  (fun _ _ => none)
  (fun _ _ _ => none)
  (fun _ _ => none)
  (fun _ _ _ _ _ _ _ => none)
  (fun _ _ _ _ => none)
  (fun _ _ _ _ => none)
  (fun _ _ => none)
  (fun _ _ _ _ _ => none)
  ⟨⟩ (fun _ _ _ _ => ⟨⟩) v
noncomputable def AHn (v : V) : Option Bool :=
 V.rec (motive_1 := fun _ => Option Bool) (motive_2 := fun _ => PUnit)
  (none)
  (fun _ _ _ => none)
  (fun _ => none)
  (fun _ _ => none)
  (some false)
  (fun _ _ => none)
  (fun _ _ => none)
  (none)
  (fun _ _ _ _ _ => none)
  (fun _ _ _ _ => none)
  (fun _ _ _ _ _ => none)
  (none)
  (fun _ => none)
  (none)
  (fun _ _ _ _ _ => none)
  (fun _ _ => none)
  (fun _ _ => none)
  (none)
  (fun _ _ _ => none)
  ⟨⟩ (fun _ _ _ _ => ⟨⟩) v
noncomputable def AB6 (v : V) : (V) -> Option Bool :=
 V.rec (motive_1 := fun _ => (V) -> Option Bool) (motive_2 := fun _ => PUnit)
  (fun _ => none)
  (fun a b c y => AFe y a b c)
  (fun _ _ => none)
  (fun _ _ _ => none)
  (fun _ => none)
  (fun _ _ _ => none)
  (fun _ _ _ => none)
  (fun _ => none)
  (fun _ _ _ _ _ _ => none)
  (fun _ _ _ _ _ => none)
  (fun _ _ _ _ _ _ => none)
  (fun _ => none)
  (fun _ _ => none)
  (fun _ => none)
  (fun _ _ _ _ _ _ => none)
  (fun _ _ _ => none)
  (fun _ _ _ => none)
  (fun _ => none)
  (fun _ _ _ _ => none)
  ⟨⟩ (fun _ _ _ _ => ⟨⟩) v
noncomputable def AC7 (v : V) : (V) -> Option Bool :=
 V.rec (motive_1 := fun _ => (V) -> Option Bool) (motive_2 := fun _ => PUnit)
  (fun _ => none)
  (fun _ _ _ _ => none)
  (fun _ _ => none)
  (fun a b y => eqStr y a b)
  (fun _ => none)
  (fun _ _ _ => none)
  (fun _ _ _ => none)
  (fun _ => none)
  (fun _ _ _ _ _ _ => none)
  (fun _ _ _ _ _ => none)
  (fun _ _ _ _ _ _ => none)
  (fun _ => none)
  (fun _ _ => none)
  (fun _ => none)
  (fun _ _ _ _ _ _ => none)
  (fun _ _ _ => none)
  (fun _ _ _ => none)
  (fun _ => none)
  (fun _ _ _ _ => none)
  ⟨⟩ (fun _ _ _ _ => ⟨⟩) v
noncomputable def rW (v : V) : (V) -> Option Bool :=
 V.rec (motive_1 := fun _ => (V) -> Option Bool) (motive_2 := fun _ => PUnit)
  (fun _ => none)
  (fun _ _ _ _ => none)
  (fun a y => ACK y a)
  (fun _ _ _ => none)
  (fun _ => none)
  (fun _ _ _ => none)
  (fun _ _ _ => none)
  (fun _ => none)
  (fun _ _ _ _ _ _ => none)
  (fun _ _ _ _ _ => none)
  (fun _ _ _ _ _ _ => none)
  (fun _ => none)
  (fun _ _ => none)
  (fun _ => none)
  (fun _ _ _ _ _ _ => none)
  (fun _ _ _ => none)
  (fun _ _ _ => none)
  (fun _ => none)
  (fun _ _ _ _ => none)
  ⟨⟩ (fun _ _ _ _ => ⟨⟩) v
noncomputable def AG0 (v : V) : (V) -> Option Bool :=
 V.rec (motive_1 := fun _ => (V) -> Option Bool) (motive_2 := fun _ => PUnit)
  (fun _ => none)
  (fun _ _ _ _ => none)
  (fun _ _ => none)
  (fun _ _ _ => none)
  (fun y => AF7 y)
  (fun a b y => AKe y a b)
  (fun _ _ y => AHn y)
  (fun _ => none)
  (fun _ _ _ _ _ _ => none)
  (fun _ _ _ _ _ => none)
  (fun _ _ _ _ _ _ => none)
  (fun _ => none)
  (fun _ _ => none)
  (fun _ => none)
  (fun _ _ _ _ _ _ => none)
  (fun _ _ _ => none)
  (fun _ _ _ => none)
  (fun _ => none)
  (fun _ _ _ _ => none)
  ⟨⟩ (fun _ _ _ _ => ⟨⟩) v
noncomputable def AGy (v : V) : Option Bool :=
 V.rec (motive_1 := fun _ => Option Bool) (motive_2 := fun _ => PUnit)
  (none)
  (fun _ _ _ => none)
  (fun _ => none)
  (fun _ _ => none)
  (none)
  (fun _ _ => none)
  (fun _ _ => none)
  (some true)
  (fun _ _ _ _ _ => some false)
  (fun _ _ _ _ => some false)
  (fun _ _ _ _ _ => some false)
  (none)
  (fun _ => none)
  (none)
  (fun _ _ _ _ _ => none)
  (fun _ _ => none)
  (fun _ _ => none)
  (none)
  (fun _ _ _ => none)
  ⟨⟩ (fun _ _ _ _ => ⟨⟩) v
noncomputable def YQ (v : V) : Option Bool :=
 V.rec (motive_1 := fun _ => Option Bool) (motive_2 := fun _ => PUnit)
  (none)
  (fun _ _ _ => none)
  (fun _ => none)
  (fun _ _ => none)
  (none)
  (fun _ _ => none)
  (fun _ _ => none)
  (some false)
  (fun _ _ _ _ _ => none)
  (fun _ _ _ _ => none)
  (fun _ _ _ _ _ => none)
  (none)
  (fun _ => none)
  (none)
  (fun _ _ _ _ _ => none)
  (fun _ _ => none)
  (fun _ _ => none)
  (none)
  (fun _ _ _ => none)
  ⟨⟩ (fun _ _ _ _ => ⟨⟩) v
noncomputable def AGD (v : V) : Option Bool :=
 V.rec (motive_1 := fun _ => Option Bool) (motive_2 := fun _ => PUnit)
  (none)
  (fun _ _ _ => none)
  (fun _ => none)
  (fun _ _ => none)
  (none)
  (fun _ _ => none)
  (fun _ _ => none)
  (none)
  (fun _ _ _ _ _ => none)
  (fun _ _ _ _ => none)
  (fun _ _ _ _ _ => none)
  (none)
  (fun _ => none)
  (some true)
  (fun _ _ _ _ _ => some false)
  (fun _ _ => none)
  (fun _ _ => none)
  (none)
  (fun _ _ _ => none)
  ⟨⟩ (fun _ _ _ _ => ⟨⟩) v
noncomputable def ADe (v : V) : Option Bool :=
 V.rec (motive_1 := fun _ => Option Bool) (motive_2 := fun _ => PUnit)
  (none)
  (fun _ _ _ => none)
  (fun _ => none)
  (fun _ _ => none)
  (none)
  (fun _ _ => none)
  (fun _ _ => none)
  (none)
  (fun _ _ _ _ _ => none)
  (fun _ _ _ _ => none)
  (fun _ _ _ _ _ => none)
  (none)
  (fun _ => none)
  (some false)
  (fun _ _ _ _ _ => none)
  (fun _ _ => none)
  (fun _ _ => none)
  (none)
  (fun _ _ _ => none)
  ⟨⟩ (fun _ _ _ _ => ⟨⟩) v
noncomputable def AGa (v : V) : Option Bool :=
 V.rec (motive_1 := fun _ => Option Bool) (motive_2 := fun _ => PUnit)
  (none)
  (fun _ _ _ => none)
  (fun _ => none)
  (fun _ _ => none)
  (none)
  (fun _ _ => none)
  (fun _ _ => none)
  (none)
  (fun _ _ _ _ _ => none)
  (fun _ _ _ _ => none)
  (fun _ _ _ _ _ => none)
  (some true)
  (fun _ => some false)
  (none)
  (fun _ _ _ _ _ => none)
  (fun _ _ => none)
  (fun _ _ => none)
  (none)
  (fun _ _ _ => none)
  ⟨⟩ (fun _ _ _ _ => ⟨⟩) v
noncomputable def AEH (v : V) : Option Bool :=
 V.rec (motive_1 := fun _ => Option Bool) (motive_2 := fun _ => PUnit)
  (none)
  (fun _ _ _ => none)
  (fun _ => none)
  (fun _ _ => none)
  (none)
  (fun _ _ => none)
  (fun _ _ => none)
  (none)
  (fun _ _ _ _ _ => none)
  (fun _ _ _ _ => none)
  (fun _ _ _ _ _ => none)
  (some false)
  (fun _ => none)
  (none)
  (fun _ _ _ _ _ => none)
  (fun _ _ => none)
  (fun _ _ => none)
  (none)
  (fun _ _ _ => none)
  ⟨⟩ (fun _ _ _ _ => ⟨⟩) v
noncomputable def kSl (v : V) : (V) -> Option Bool :=
 V.rec (motive_1 := fun _ => (V) -> Option Bool) (motive_2 := fun _ => PUnit)
  (fun _ => none)
  (fun _ _ _ _ => none)
  (fun _ _ => none)
  (fun _ _ _ => none)
  (fun _ => none)
  (fun _ _ _ => none)
  (fun _ _ _ => none)
  (fun y => AGy y)
  (fun _ _ _ _ _ y => YQ y)
  (fun _ _ _ _ y => YQ y)
  (fun _ _ _ _ _ y => YQ y)
  (fun _ => none)
  (fun _ _ => none)
  (fun _ => none)
  (fun _ _ _ _ _ _ => none)
  (fun _ _ _ => none)
  (fun _ _ _ => none)
  (fun _ => none)
  (fun _ _ _ _ => none)
  ⟨⟩ (fun _ _ _ _ => ⟨⟩) v
noncomputable def kFn (v : V) : (V) -> Option Bool :=
 V.rec (motive_1 := fun _ => (V) -> Option Bool) (motive_2 := fun _ => PUnit)
  (fun _ => none)
  (fun _ _ _ _ => none)
  (fun _ _ => none)
  (fun _ _ _ => none)
  (fun _ => none)
  (fun _ _ _ => none)
  (fun _ _ _ => none)
  (fun _ => none)
  (fun _ _ _ _ _ _ => none)
  (fun _ _ _ _ _ => none)
  (fun _ _ _ _ _ _ => none)
  (fun _ => none)
  (fun _ _ => none)
  (fun y => AGD y)
  (fun _ _ _ _ _ y => ADe y)
  (fun _ _ _ => none)
  (fun _ _ _ => none)
  (fun _ => none)
  (fun _ _ _ _ => none)
  ⟨⟩ (fun _ _ _ _ => ⟨⟩) v
noncomputable def AMw (v : V) : (V) -> Option Bool :=
 V.rec (motive_1 := fun _ => (V) -> Option Bool) (motive_2 := fun _ => PUnit)
  (fun _ => none)
  (fun _ _ _ _ => none)
  (fun _ _ => none)
  (fun _ _ _ => none)
  (fun _ => none)
  (fun _ _ _ => none)
  (fun _ _ _ => none)
  (fun _ => none)
  (fun _ _ _ _ _ _ => none)
  (fun _ _ _ _ _ => none)
  (fun _ _ _ _ _ _ => none)
  (fun y => AGa y)
  (fun _ y => AEH y)
  (fun _ => none)
  (fun _ _ _ _ _ _ => none)
  (fun _ _ _ => none)
  (fun _ _ _ => none)
  (fun _ => none)
  (fun _ _ _ _ => none)
  ⟨⟩ (fun _ _ _ _ => ⟨⟩) v
noncomputable def WL (o : Option Bool) (f : Bool -> Option Bool) : Option Bool := Option.rec (motive := fun _ => (Bool -> Option Bool) -> Option Bool) (fun _ => none) (fun v f => f v) o f
inductive CK where
 | int | str | bool | ptr
noncomputable def CK.eq (k : CK) : V -> V -> Option Bool := CK.rec (motive := fun _ => V -> V -> Option Bool) AB6 AC7 rW AG0 k
noncomputable def rM (ks : List CK) : List V -> List V -> Option Bool :=
 List.rec (motive := fun _ => List V -> List V -> Option Bool) (fun a b => List.rec (motive := fun _ => Option Bool) (List.rec (motive := fun _ => Option Bool) (some true) (fun _ _ _ => none) b) (fun _ _ _ => none) a)
  (fun k _ g a b => List.rec (motive := fun _ => Option Bool) none (fun x xs _ => List.rec (motive := fun _ => Option Bool) none (fun y ys _ => WL (k.eq x y) fun r => WL (g xs ys) fun r' => some (band r r')) b) a) ks
noncomputable def AKl (v : V) : (List CK) -> (LV) -> Option Bool :=
 V.rec (motive_1 := fun _ => (List CK) -> (LV) -> Option Bool) (motive_2 := fun _ => PUnit)
  (fun _ _ => none)
  (fun _ _ _ _ _ => none)
  (fun _ _ _ => none)
  (fun _ _ _ _ => none)
  (fun _ _ => none)
  (fun _ _ _ _ => none)
  (fun _ _ _ _ => none)
  (fun _ _ => none)
  (fun _ _ _ _ _ _ _ => none)
  (fun _ _ _ _ _ _ => none)
  (fun _ _ _ _ _ _ _ => none)
  (fun _ _ => none)
  (fun _ _ _ => none)
  (fun _ _ => none)
  (fun _ _ _ _ _ _ _ => none)
  (fun a _ ks l => rM ks l a)
  (fun _ _ _ _ => none)
  (fun _ _ => none)
  (fun _ _ _ _ _ => none)
  ⟨⟩ (fun _ _ _ _ => ⟨⟩) v
noncomputable def AML (v : V) : (List CK) -> (V) -> Option Bool :=
 V.rec (motive_1 := fun _ => (List CK) -> (V) -> Option Bool) (motive_2 := fun _ => PUnit)
  (fun _ _ => none)
  (fun _ _ _ _ _ => none)
  (fun _ _ _ => none)
  (fun _ _ _ _ => none)
  (fun _ _ => none)
  (fun _ _ _ _ => none)
  (fun _ _ _ _ => none)
  (fun _ _ => none)
  (fun _ _ _ _ _ _ _ => none)
  (fun _ _ _ _ _ _ => none)
  (fun _ _ _ _ _ _ _ => none)
  (fun _ _ => none)
  (fun _ _ _ => none)
  (fun _ _ => none)
  (fun _ _ _ _ _ _ _ => none)
  (fun a _ ks y => AKl y ks a)
  (fun _ _ _ _ => none)
  (fun _ _ => none)
  (fun _ _ _ _ _ => none)
  ⟨⟩ (fun _ _ _ _ => ⟨⟩) v
inductive EK where
 | one (k : CK) | agg (ks : List CK) | sl | fn | map
noncomputable def EK.eq (k : EK) : V -> V -> Option Bool := EK.rec (motive := fun _ => V -> V -> Option Bool) (fun k => k.eq) (fun ks x y => AML x ks y) kSl kFn AMw k
inductive B2 where
 | add | sub | mul | quo | rem | and | or | xor | andNot | shl | shr | lss | leq | gtr | geq
noncomputable def AEb (f : Int -> Int -> Bool) (x y : V) : Option V := x.Em fun k a s => y.Em fun k' b t => Aq (band (keq k k') (Nat.beq (Nat.add s t) 0)) (mkB (f a b))
noncomputable def AAO (f : Nat -> Nat -> Nat -> Nat -> Bool) (x y : V) : Option V := x.OO fun l c => y.OO fun m d => mkB (f l c m d)
noncomputable def ari (f : Int -> Int -> Int) (x y : V) : Option V := x.Em fun k a s => y.Em fun k' b t => Aq (keq k k') (mkI k (f a b) (Nat.add s t))
noncomputable def dvs (f : Int -> Int -> Int) (x y : V) : Option V :=
 x.Em fun k a s => y.Em fun k' b t => Aq (band (keq k k') (band (Nat.beq t 0) (UL (ieq b 0)))) (mkI k (f a b) s)
noncomputable def AMJ (x y : V) : Option V :=
 x.Em fun k a s => y.Em fun k' b t => Aq (band (keq k k') (band (Nat.beq t 0) (UL (ieq b 0)))) (mkN k (Int.tmod a b) s)
noncomputable def AOx (x y : V) : Option V := x.OO fun l c => y.OO fun m d => Aq (Nat.blt (Nat.add l m) 9223372036854775808) (CQ (Nat.add l m) fun n => CQ (ANT l c d) fun e => some (.str n e))
noncomputable def ANd (x y : V) : Option V := mg (isStr x) (AOx x y) (ari vT x y)
noncomputable def AQN (x y : V) : Option V := ari (fun a b => vT a (Int.neg b)) x y
noncomputable def AQF (x y : V) : Option V := ari Int.mul x y
noncomputable def AFT (k : IntKind) (a b : Int) : Int := Int.rec (motive := fun _ => Int -> IntKind -> Int)
 (fun m b k => Int.rec (motive := fun _ => Nat -> IntKind -> Int) (fun n m k => PY k (.ofNat (Nat.land m n))) (fun n m k => bits .and k (.ofNat m) (.negSucc n)) b m k)
 (fun m b k => bits .and k (.negSucc m) b) a b k
noncomputable def AJe (x y : V) : Option V := x.Em fun k a s => y.Em fun k' b t => Aq (band (keq k k') (Nat.beq (Nat.add s t) 0)) (Iy (AFT k a b) fun m => some (.int k m 0))
noncomputable def AGp (o : BinOp) (x y : V) : Option V := x.Em fun k a s => y.Em fun k' b t => Aq (band (keq k k') (Nat.beq (Nat.add s t) 0)) (Iy (bits o k a b) fun m => some (.int k m 0))
noncomputable def AMb (a : Int) (n : Nat) : Int := Int.fdiv a (Int.ofNat (Nat.pow 2 n))
noncomputable def o7 (k : IntKind) : Nat := IntKind.rec 8 16 32 64 8 16 32 64 k
noncomputable def AMX (x y : V) : Option V := x.Em fun k a s => y.Em fun _ b t => Aq (band (UL (ilt b 0)) (Nat.beq (Nat.add s t) 0)) (Iy (AMb a (Nat.min (Int.toNat b) (o7 k))) fun m => some (.int k m 0))
noncomputable def ANE (x y : V) : Option V := x.Em fun k a s => y.Em fun _ b t => Aq (band (UL (ilt b 0)) (Nat.beq (Nat.add s t) 0)) (mkI k (Int.mul a (Int.ofNat (Nat.pow 2 (Nat.min (Int.toNat b) (o7 k))))) 0)
noncomputable def ofB (o : Option Bool) : Option V := Option.rec none mkB o
noncomputable def Ig (k : EK) (neg : Bool) (x y : V) : Option V := ofB (WL (k.eq x y) fun b => some (Bool.rec (motive := fun _ => Bool -> Bool) (fun b => b) UL neg b))
noncomputable def ANQ (x y : V) : Option V := mg (isStr x) (AAO slt x y) (AEb ilt x y)
noncomputable def AKy (x y : V) : Option V := mg (isStr x) (AAO (fun l c m d => UL (slt m d l c)) x y) (AEb ile x y)
noncomputable def ALT (x y : V) : Option V := mg (isStr x) (AAO (fun l c m d => slt m d l c) x y) (AEb (fun a b => ilt b a) x y)
noncomputable def ALG (x y : V) : Option V := mg (isStr x) (AAO (fun l c m d => UL (slt l c m d)) x y) (AEb (fun a b => ile b a) x y)
noncomputable def B2.ev (o : B2) : V -> V -> Option V := B2.rec (motive := fun _ => V -> V -> Option V)
 ANd AQN AQF (dvs Int.tdiv) AMJ AJe (AGp .or) (AGp .xor) (AGp .andNot) ANE AMX ANQ AKy ALT ALG o
end Go.Eng
namespace Go.Eng
inductive AN where
 | mv (x : X)
 | pick (c a b : X)
 | ld1 (x : X)
 | ldn (n : Nat) (x : X)
 | AEK (x : X)
 | bin (o : B2) (x y : X)
 | eq (k : EK) (neg : Bool) (x y : X)
 | not (x : X)
 | neg (x : X)
 | cvi (k : IntKind) (x : X)
 | AOS (f : Nat) (first caps : List X)
 | AKO (off : Nat) (x : X)
 | field1 (off : Nat) (x : X)
 | AHI (off n : Nat) (x : X)
 | AKW (esz : Nat) (x i : X)
 | AHM (n esz : Nat) (x i : X)
 | AN8 (x i : X)
 | AP8 (n : Nat) (x i : X)
 | ext (x : X) (i : Nat)
 | APj (x : X)
 | APG (x : X)
 | ANH (x : X)
 | AO1 (n : Nat)
 | look (c : CK) (ok : Bool) (zero : V) (m k : X)
 | build (zero : List V) (parts : List (Nat × Nat × X))
 | ANX (x : X) (lo hi : Option X)
 | slc (esz : Nat) (x : X) (lo hi mx : Option X)
 | AP2 (n esz : Nat) (x : X) (lo hi : Option X)
 | AOm (x y : X)
 | AOH (x y : X)
 | cvS (x : X)
 | AEL (s c : X)
 | AAO (x y : X)
inductive AA where
 | alloc (esz : Nat) (es : List (List V))
 | box (x : X)
 | sN (esz cnt : Nat) (zero : List V) (parts : List (Nat × X))
 | jv (esz bytes : Nat) (zero : List V) (l c : X)
 | ADv
inductive AE where
 | asg (x : X)
 | st (n : Nat) (x v : X)
 | app (esz bytes : Nat) (x y : X)
 | copy (esz : Nat) (x y : X)
 | yF (c : CK) (m k v : X)
 | del (c : CK) (m k : X)
 | AK8 (m : X)
 | call (f : Nat) (args : List X)
 | ABT (x : X) (args : List X)
 | defer (dp : P2) (x : X) (args : List X)
 | cvB (x : X)
inductive AO where
 | n (o : AN) | a (o : AA) | e (o : AE)
inductive Zf where
 | no | to (p : P2) | ps
inductive Gd where
 | no | on (x : X) (b : Bool)
inductive iZ where
 | mk (d : Zf) (g : Gd) (o : AO)
noncomputable def AG5 (n : Int) : (Nat -> Option V) -> Option V := Int.rec (motive := fun _ => (Nat -> Option V) -> Option V) (fun m f => f m) (fun _ _ => none) n
noncomputable def Qr (v : V) (f : Nat -> Option V) : Option V := v.Em fun _ n s => Aq (Nat.beq s 0) (AG5 n f)
noncomputable def Uc (x : Option X) : RS -> Nat -> (Nat -> Option V) -> Option V :=
 Option.rec (motive := fun _ => RS -> Nat -> (Nat -> Option V) -> Option V) (fun _ d f => f d) (fun x R _ f => Qr (x.ev R) f) x
noncomputable def f3 (a b c : Nat) (f : Nat -> Nat -> Nat -> V) : Option V := CQ a fun a => CQ b fun b => CQ c fun c => some (f a b c)
noncomputable def nV (R : RS) (lo hi mx : Option X) : Option V := Uc mx R 0 fun m => Uc hi R 0 fun h => Uc lo R 0 fun l => Aq (band (Nat.ble l h) (band (Nat.ble h m) (Nat.beq m 0))) (some .Ag)
noncomputable def xU (z : Nat) (R : RS) (lo hi mx : Option X) (id off ln cap esz : Nat) : Option V := Aq (Nat.beq z esz) (Uc mx R cap fun m => Uc hi R ln fun h => Uc lo R 0 fun l =>
 Aq (band (Nat.ble l h) (band (Nat.ble h m) (Nat.ble m cap))) (f3 (Nat.add off l) (Nat.sub h l) (Nat.sub m l) fun o d c => .sl id o d c esz))
noncomputable def jE (R : RS) (lo hi : Option X) (id off ln esz : Nat) : Option V := Uc hi R ln fun h => Uc lo R 0 fun l =>
 Aq (band (Nat.ble l h) (Nat.ble h ln)) (f3 (Nat.add off l) (Nat.sub h l) 0 fun o d _ => .NW id o d esz)
noncomputable def kF (R : RS) (lo hi : Option X) (mx : X) (id off ln esz : Nat) : Option V := Qr (mx.ev R) fun m => Uc hi R 0 fun h => Uc lo R 0 fun l =>
 Aq (band (Nat.ble l h) (band (Nat.ble h m) (Nat.ble m ln))) (f3 (Nat.add off l) (Nat.sub h l) (Nat.sub m l) fun o d c => .sl id o d c esz)
noncomputable def gB (z : Nat) (R : RS) (lo hi mx : Option X) (id off ln esz : Nat) : Option V :=
 Aq (Nat.beq z esz) (Option.rec (motive := fun _ => Option V) (jE R lo hi id off ln esz) (fun mx => kF R lo hi mx id off ln esz) mx)
noncomputable def lY (z : Nat) (R : RS) (lo hi mx : Option X) (b off ln cap esz : Nat) : Option V := Uc hi R ln fun h => Uc lo R 0 fun l =>
 Option.rec (motive := fun _ => Option V) (Aq (band (Nat.ble l h) (Nat.ble h cap)) (f3 (Nat.add off (Nat.mul l z)) (Nat.sub h l) (Nat.sub cap l) fun o d c => .rsl b o d c esz)) (fun _ => none) mx
noncomputable def zU (z : Nat) (x : V) (R : RS) (lo hi mx : Option X) : Option V := x.AH3 (nV R lo hi mx) (xU z R lo hi mx) (gB z R lo hi mx) (lY z R lo hi mx)
noncomputable def RF (x : V) (R : RS) (lo hi : Option X) : Option V :=
 x.OO fun ln c => Uc hi R ln fun h => Uc lo R 0 fun l => Aq (band (Nat.ble l h) (Nat.ble h ln)) (f3 (Nat.sub h l) (AFk c l h) 0 fun d c _ => .str d c)
noncomputable def BU (esz : Nat) (x i : V) : Option V := Qr i fun i => x.AH3 none
 (fun id off ln _ e => Aq (band (Nat.beq e esz) (Nat.blt i ln)) (CQ (Nat.mul (Nat.add off i) esz) fun o => some (.ptr id o)))
 (fun id off ln e => Aq (band (Nat.beq e esz) (Nat.blt i ln)) (CQ (Nat.mul (Nat.add off i) esz) fun o => some (.ptr id o)))
 (fun b off ln _ _ => Aq (Nat.blt i ln) (CQ (Nat.add off (Nat.mul i esz)) fun o => some (.gptr b o)))
noncomputable def AX (off : Nat) (x : V) : Option V := x.xq (fun id o => CQ (Nat.add o off) fun o => some (.ptr id o)) (fun b o => CQ (Nat.add o off) fun o => some (.gptr b o))
abbrev ME := List (V × V × Nat)
noncomputable def bQ (c : CK) (k : V) (es : ME) : Nat -> Option (Option (Nat × V)) :=
 List.rec (motive := fun _ => Nat -> Option (Option (Nat × V))) (fun _ => some none)
  (fun e _ g i => BG (c.eq e.1 k) fun r => Bool.rec (g (Nat.succ i)) (some (some (i, e.2.1))) r) es
noncomputable def AOW (b : Np) : (ME -> Nat -> Option V) -> Option V := Np.rec (motive := fun _ => (ME -> Nat -> Option V) -> Option V) (fun _ _ _ _ => none) (fun es c f => f es c) (fun _ => none) b
noncomputable def NR (H : Heap) (m : V) (f : ME -> Nat -> Option V) : Option V := m.ADC (f [] 0) fun id => Option.rec (motive := fun _ => (ME -> Nat -> Option V) -> Option V) (fun _ => none) AOW (T.get H id) f
noncomputable def aT (parts : List (Nat × Nat × X)) : RS -> List V -> List V :=
 List.rec (motive := fun _ => RS -> List V -> List V) (fun _ l => l) (fun p _ g R l => g R (ABX (BK (p.2.2.ev R)) p.1 l)) parts
noncomputable def XF (v : V) : Bool :=
 V.rec (motive_1 := fun _ => Bool) (motive_2 := fun _ => PUnit)
  (false)
  (fun _ _ _ => true)
  (fun _ => true)
  (fun _ _ => true)
  (true)
  (fun _ _ => true)
  (fun _ _ => true)
  (true)
  (fun _ _ _ _ _ => true)
  (fun _ _ _ _ => true)
  (fun _ _ _ _ _ => true)
  (true)
  (fun _ => true)
  (true)
  (fun _ _ _ _ _ => true)
  (fun _ _ => true)
  (fun _ _ => false)
  (true)
  (fun _ _ _ => true)
  ⟨⟩ (fun _ _ _ _ => ⟨⟩) v
noncomputable def QS (parts : List (Nat × Nat × X)) : RS -> Bool :=
 List.rec (motive := fun _ => RS -> Bool) (fun _ => true) (fun p _ g R => band (band (XF (p.2.2.ev R)) (Nat.beq (len (BK (p.2.2.ev R))) p.2.1)) (g R)) parts
abbrev Dk := List LV
noncomputable def CV (H : Heap) (id esz : Nat) (n : Nat) : Nat -> Option Dk :=
 Nat.rec (motive := fun _ => Nat -> Option Dk) (fun _ => some [])
  (fun _ g o => BG (ZI H id (Nat.mul o esz) esz) fun L => BG (g (Nat.succ o)) fun LS => some (L :: LS)) n
noncomputable def bZ (G : AP) (b esz : Nat) (n : Nat) : Nat -> Option Dk :=
 Nat.rec (motive := fun _ => Nat -> Option Dk) (fun _ => some [])
  (fun _ g o => BG (G b o esz) fun L => BG (g (Nat.add o esz)) fun LS => some (L :: LS)) n
noncomputable def PW (n : Nat) : Nat -> Dk :=
 Nat.rec (motive := fun _ => Nat -> Dk) (fun _ => []) (fun _ g c => [.int .u8 (.ofNat (Nat.mod c 256)) 0] :: g (Nat.div c 256)) n
noncomputable def elems (v : V) : (AP) -> (Heap) -> (Nat) -> Option Dk :=
 V.rec (motive_1 := fun _ => (AP) -> (Heap) -> (Nat) -> Option Dk) (motive_2 := fun _ => PUnit)
  (fun _ _ _ => none)
  (fun _ _ _ _ _ _ => none)
  (fun _ _ _ _ => none)
  (fun a b _ _ z => Bool.rec (motive := fun _ => Option Dk) none (some (PW a b)) (Nat.beq 1 z))
  (fun _ _ _ => none)
  (fun _ _ _ _ _ => none)
  (fun _ _ _ _ _ => none)
  (fun _ _ _ => some [])
  (fun a b c _ e _ H z => Bool.rec (motive := fun _ => Option Dk) none (CV H a z c b) (Nat.beq e z))
  (fun a b c d _ H z => Bool.rec (motive := fun _ => Option Dk) none (CV H a z c b) (Nat.beq d z))
  (fun a b c _ _ G _ z => bZ G a z c b)
  (fun _ _ _ => none)
  (fun _ _ _ _ => none)
  (fun _ _ _ => none)
  (fun _ _ _ _ _ _ _ _ => none)
  (fun _ _ _ _ _ => none)
  (fun _ _ _ _ _ => none)
  (fun _ _ _ => none)
  (fun _ _ _ _ _ _ => none)
  ⟨⟩ (fun _ _ _ _ => ⟨⟩) v
noncomputable def byteOf (v : V) : Option Nat :=
 V.rec (motive_1 := fun _ => Option Nat) (motive_2 := fun _ => PUnit)
  (none)
  (fun a b c => Int.rec (motive := fun _ => Nat -> Option Nat) (fun m t => Bool.rec none (some m) (band (Nat.beq (kno a) 4) (band (Nat.blt m 256) (Nat.beq t 0)))) (fun _ _ => none) b c)
  (fun _ => none)
  (fun _ _ => none)
  (none)
  (fun _ _ => none)
  (fun _ _ => none)
  (none)
  (fun _ _ _ _ _ => none)
  (fun _ _ _ _ => none)
  (fun _ _ _ _ _ => none)
  (none)
  (fun _ => none)
  (none)
  (fun _ _ _ _ _ => none)
  (fun _ _ => none)
  (fun _ _ => none)
  (none)
  (fun _ _ _ => none)
  ⟨⟩ (fun _ _ _ _ => ⟨⟩) v
noncomputable def jY (l : Dk) : Option Nat :=
 List.rec (motive := fun _ => Option Nat) (some 0) (fun x _ g => BG (nth x 0) fun v => BG (byteOf v) fun m => BG g fun c => some (Nat.add m (Nat.mul 256 c))) l
noncomputable def Wu (b : Nat) (f : Nat) : Nat -> Nat -> Int :=
 Nat.rec (motive := fun _ => Nat -> Nat -> Int) (fun _ _ => .negSucc 0)
  (fun _ g c i => Bool.rec (g (Nat.div c 256) (Nat.succ i)) (.ofNat i) (Nat.beq (Nat.mod c 256) b)) f
abbrev aY := AP -> RS -> Heap -> Option V
noncomputable def eMv (x : X) : aY := fun _ R _ => some (x.ev R)
noncomputable def eNo (b : X) (R : RS) : Option V := some (b.ev R)
noncomputable def ADa (c a b : X) : aY := fun _ R _ => (c.ev R).aB fun t => mg t (some (a.ev R)) (some (b.ev R))
noncomputable def AJq (x : X) : aY := fun G R H => Ku (lH (x.ev R) G H 1) fun L => nth L 0
noncomputable def AIU (n : Nat) (x : X) : aY := fun G R H => Ku (lH (x.ev R) G H n) fun L => some (.agg L)
noncomputable def zJ (x : X) : aY := fun _ R _ => A8 (x.ev R)
noncomputable def AKF (o : B2) (x y : X) : aY := fun _ R _ => o.ev (x.ev R) (y.ev R)
noncomputable def eEq (k : EK) (neg : Bool) (x y : X) : aY := fun _ R _ => Ig k neg (x.ev R) (y.ev R)
noncomputable def AJc (x : X) : aY := fun _ R _ => (x.ev R).aB fun b => mkB (UL b)
noncomputable def AIM (x : X) : aY := fun _ R _ => (x.ev R).Em fun k n s => mkI k (Int.neg n) s
noncomputable def AJE (k : IntKind) (x : X) : aY := fun _ R _ => (x.ev R).Em fun _ n s => mkI k n s
noncomputable def AEI (f : Nat) (a c : List X) : aY := fun _ R _ => some (.fn f (Qm a R) (Qm c R))
noncomputable def AAS (off : Nat) (x : X) : aY := fun _ R _ => AX off (x.ev R)
noncomputable def qh (off : Nat) (x : X) : aY := fun _ R _ => (x.ev R).au fun l => nth l off
noncomputable def qN (off n : Nat) (x : X) : aY := fun _ R _ => (x.ev R).au fun l => some (.agg (TT n (YA off l)))
noncomputable def zh (esz : Nat) (x i : X) : aY := fun _ R _ => BU esz (x.ev R) (i.ev R)
noncomputable def qY (n esz : Nat) (x i : X) : aY := fun _ R _ => Qr (i.ev R) fun i => Aq (Nat.blt i n) (AX (Nat.mul i esz) (x.ev R))
noncomputable def ADm (x i : X) : aY := fun _ R _ => (x.ev R).OO fun ln c => Qr (i.ev R) fun i => Aq (Nat.blt i ln) (CQ (AEu c i) fun b => some (.int .u8 (.ofNat b) 0))
noncomputable def ADx (n : Nat) (x i : X) : aY := fun _ R _ => (x.ev R).au fun l => Qr (i.ev R) fun i => Aq (Nat.blt i n) (nth l i)
noncomputable def AJi (x : X) (i : Nat) : aY := fun _ R _ => (x.ev R).AAn fun l => nth l i
noncomputable def ADw (x : X) : aY := fun _ R _ => (x.ev R).OO fun n _ => some (.int .i64 (.ofNat n) 0)
noncomputable def AEJ (x : X) : aY := fun _ R _ => lenV (x.ev R)
noncomputable def ADt (x : X) : aY := fun _ R H => NR H (x.ev R) fun es _ => CQ (len es) fun n => some (.int .i64 (.ofNat n) 0)
noncomputable def AQS (n : Nat) : aY := fun _ _ _ => some (.int .i64 (.ofNat n) 0)
noncomputable def ADg (ok : Bool) (z : V) (r : Option (Nat × V)) : Option V :=
 Option.rec (motive := fun _ => Option V) (mg ok (some (.GK [z, .bool false])) (some z)) (fun p => mg ok (some (.GK [p.2, .bool true])) (some p.2)) r
noncomputable def AEQ (c : CK) (ok : Bool) (z : V) (m k : X) : aY := fun _ R H => NR H (m.ev R) fun es _ => BG (bQ c (k.ev R) es 0) (ADg ok z)
noncomputable def AAL (z : LV) (ps : List (Nat × Nat × X)) : aY := fun _ R _ => Aq (QS ps R) (some (.agg (aT ps R z)))
noncomputable def rZ (x : X) (lo hi : Option X) : aY := fun _ R _ => RF (x.ev R) R lo hi
noncomputable def AI3 (z : Nat) (x : X) (lo hi mx : Option X) : aY := fun _ R _ => zU z (x.ev R) R lo hi mx
noncomputable def xW (n esz : Nat) (x : X) (lo hi : Option X) : aY := fun _ R _ => (x.ev R).xq (fun id o => Uc hi R n fun h => Uc lo R 0 fun l =>
 Aq (band (Nat.beq (Nat.mod o esz) 0) (band (Nat.ble l h) (Nat.ble h n))) (f3 (Nat.add (Nat.div o esz) l) (Nat.sub h l) (Nat.sub n l) fun a b c => .sl id a b c esz)) (fun _ _ => none)
noncomputable def AJz (x y : X) : aY := fun _ R _ => (x.ev R).Em fun k a s => (y.ev R).Em fun k' b t => Aq (band (keq k k') (Nat.beq (Nat.add s t) 0)) (some (.int k (Bool.rec a b (ilt a b)) 0))
noncomputable def AIx (x y : X) : aY := fun _ R _ => (x.ev R).Em fun k a s => (y.ev R).Em fun k' b t => Aq (band (keq k k') (Nat.beq (Nat.add s t) 0)) (some (.int k (Bool.rec a b (ilt b a)) 0))
noncomputable def AJF (x : X) : aY := fun G R H => Aq (UL (isStr (x.ev R))) (BG (elems (x.ev R) G H 1) fun l => BG (jY l) fun c => f3 (len l) c 0 fun n c _ => .str n c)
noncomputable def AAK (s c : X) : aY := fun _ R _ => (s.ev R).OO fun n cd => (c.ev R).Em fun k b _ => Aq (Nat.beq (kno k) 4) (AG5 b fun b => Aq (Nat.blt b 256) (Iy (Wu b n cd 0) fun i => some (.int .i64 i 0)))
noncomputable def ADU (x y : V) : Option V := x.OO fun l c => y.OO fun m d => some (.int .i64 (Bool.rec (Bool.rec (.ofNat 0) (.ofNat 1) (slt m d l c)) (.negSucc 0) (slt l c m d)) 0)
noncomputable def ADo (x y : X) : aY := fun _ R _ => ADU (x.ev R) (y.ev R)
noncomputable def AN.ev (o : AN) : aY := AN.rec (motive := fun _ => aY)
 eMv ADa AJq AIU zJ AKF eEq AJc AIM AJE AEI AAS qh qN zh qY ADm ADx AJi ADw AEJ ADt AQS AEQ AAL rZ AI3 xW AJz AIx AJF AAK ADo o
noncomputable def ACx (L : LV) (n : Nat) : T LV -> T LV :=
 Nat.rec (motive := fun _ => T LV -> T LV) (fun t => t) (fun i g t => g (T.set t i L)) n
noncomputable def ED (LS : Dk) : Nat -> T LV -> T LV :=
 List.rec (motive := fun _ => Nat -> T LV -> T LV) (fun _ t => t) (fun L _ g i t => g (Nat.succ i) (T.set t i L)) LS
noncomputable def Vh (parts : List (Nat × X)) : RS -> T LV -> T LV :=
 List.rec (motive := fun _ => RS -> T LV -> T LV) (fun _ t => t) (fun p _ g R t => g R (T.set t p.1 (BK (p.2.ev R)))) parts
noncomputable def OD (parts : List (Nat × X)) : RS -> Nat -> Nat -> Bool :=
 List.rec (motive := fun _ => RS -> Nat -> Nat -> Bool) (fun _ _ _ => true) (fun p _ g R esz cnt => band (band (XF (p.2.ev R)) (band (Nat.blt p.1 cnt) (Nat.beq (len (BK (p.2.ev R))) esz))) (g R esz cnt)) parts
noncomputable def V.AF9 (v : V) : (Nat -> Prop) -> Prop :=
 V.rec (motive_1 := fun _ => (Nat -> Prop) -> Prop) (motive_2 := fun _ => PUnit)
  (fun _ => False)
  (fun _ _ _ _ => False)
  (fun _ _ => False)
  (fun _ _ _ => False)
  (fun _ => False)
  (fun a _ f => f a)
  (fun _ _ _ => False)
  (fun _ => False)
  (fun _ _ _ _ _ _ => False)
  (fun _ _ _ _ _ => False)
  (fun _ _ _ _ _ _ => False)
  (fun _ => False)
  (fun _ _ => False)
  (fun _ => False)
  (fun _ _ _ _ _ _ => False)
  (fun _ _ _ => False)
  (fun _ _ _ => False)
  (fun _ => False)
  (fun _ _ _ _ => False)
  ⟨⟩ (fun _ _ _ _ => ⟨⟩) v
noncomputable def V.kS (v : V) : (Nat -> Nat -> Prop) -> Prop :=
 V.rec (motive_1 := fun _ => (Nat -> Nat -> Prop) -> Prop) (motive_2 := fun _ => PUnit)
  (fun _ => False)
  (fun _ _ _ _ => False)
  (fun _ _ => False)
  (fun _ _ _ => False)
  (fun _ => False)
  (fun a b f => f a b)
  (fun _ _ _ => False)
  (fun _ => False)
  (fun _ _ _ _ _ _ => False)
  (fun _ _ _ _ _ => False)
  (fun _ _ _ _ _ _ => False)
  (fun _ => False)
  (fun _ _ => False)
  (fun _ => False)
  (fun _ _ _ _ _ _ => False)
  (fun _ _ _ => False)
  (fun _ _ _ => False)
  (fun _ => False)
  (fun _ _ _ _ => False)
  ⟨⟩ (fun _ _ _ _ => ⟨⟩) v
abbrev KA := Np -> (Nat -> V) -> Prop
abbrev AlT := RS -> KA -> Prop
noncomputable def Fa (b : Bool) (p : Prop) : Prop := Bool.rec (motive := fun _ => Prop -> Prop) (fun _ => False) (fun p => p) b p
noncomputable def zK (v : V) (f : Nat -> Prop) : Prop := Es (Qr v fun n => some (.ptr n 0)) fun v => V.AF9 v f
noncomputable def Ai (esz : Nat) (es : Dk) : AlT := fun _ k => Cj (len es) fun n => k (.arr esz n (ED es 0 .e)) fun id => .ptr id 0
noncomputable def vW (x : X) : AlT := fun R k => Fa (XF (x.ev R)) (Cj (len (BK (x.ev R))) fun e => k (.arr e 1 (T.set .e 0 (BK (x.ev R)))) fun id => .ptr id 0)
noncomputable def Ah (esz cnt : Nat) (z : LV) (ps : List (Nat × X)) : AlT := fun R k => Fa (OD ps R esz cnt) (k (.arr esz cnt (Vh ps R (ACx z cnt .e))) fun id => .sl id 0 cnt cnt esz)
noncomputable def Nh (esz bs : Nat) (z : LV) (l c : X) : AlT := fun R k => zK (l.ev R) fun l => zK (c.ev R) fun c =>
 Fa (band (Nat.ble l c) (Nat.ble (Nat.mul bs c) 281474976710656)) (k (.arr esz c (ACx z c .e)) fun id => .sl id 0 l c esz)
noncomputable def ACW : AlT := fun _ k => k (.map [] 0) fun id => .map id
noncomputable def AA.al (o : AA) : AlT := AA.rec (motive := fun _ => AlT) Ai vW Ah Nh ACW o
abbrev K := FM -> Heap -> Nat -> Prop
abbrev KV := V -> Heap -> Nat -> Prop
abbrev AQ := Nat -> List V -> Heap -> Nat -> KV -> Prop
noncomputable def ML (need bytes : Nat) : Bool := Nat.ble (Nat.mul need bytes) 140737488355328
abbrev AC3 := AP -> Nat -> Nat -> Dk -> Heap -> Nat -> KV -> Prop
noncomputable def La (esz bs : Nat) (OS LS : Dk) (H : Heap) (n : Nat) (k : KV) : Prop :=
 Cj (Nat.add (len OS) (len LS)) fun need => Fa (ML need bs) (Cj n fun n => k (.NW n 0 need esz) (T.set H n (.arr esz need (ED LS (len OS) (ED OS 0 .e)))) (Nat.succ n))
noncomputable def ALb : AC3 := fun _ esz bs LS H n k => List.rec (motive := fun _ => Prop) (k .Ag H n) (fun _ _ _ => La esz bs [] LS H n k) LS
noncomputable def pU (id off ln cap esz need : Nat) (LS : Dk) (H : Heap) (n : Nat) (k : KV) (b : Np) : Prop :=
 Np.rec (motive := fun _ => Prop) (fun esz' cnt c => Fa (band (Nat.beq esz esz') (Nat.ble (Nat.add off need) cnt)) (k (.sl id off need cap esz) (T.set H id (.arr esz cnt (ED LS (Nat.add off ln) c))) n)) (fun _ _ => False) False b
noncomputable def AKn (id off ln cap e : Nat) : AC3 := fun _ esz bs LS H n k => Fa (Nat.beq e esz) (Cj (Nat.add ln (len LS)) fun need =>
 Bool.rec (motive := fun _ => Prop) (Es (CV H id esz ln off) fun OS => La esz bs OS LS H n k) (Es (T.get H id) fun b => pU id off ln cap esz need LS H n k b) (Nat.ble need cap))
noncomputable def WA (id off ln esz bs : Nat) (LS : Dk) (H : Heap) (n : Nat) (k : KV) (b : Np) : Prop :=
 Np.rec (motive := fun _ => Prop) (fun esz' cnt c => Cj (Nat.add ln (len LS)) fun need => Fa (band (ML need bs) (band (Nat.beq esz esz') (Nat.ble (Nat.add off ln) cnt)))
  (Cj n fun n => Nat.rec (motive := fun _ => Prop)
   (k (.NW n 0 need esz) (T.set (T.set H id .dead) n (.arr esz need (ED LS ln c))) (Nat.succ n))
   (fun _ _ => Es (CV H id esz ln off) fun OS => k (.NW n 0 need esz) (T.set (T.set H id .dead) n (.arr esz need (ED LS ln (ED OS 0 .e)))) (Nat.succ n)) off))
  (fun _ _ => False) False b
noncomputable def AHF (id off ln e : Nat) : AC3 := fun _ esz bs LS H n k => Fa (Nat.beq e esz) (List.rec (motive := fun _ => Prop) (k (.NW id off ln esz) H n)
 (fun _ _ _ => Es (T.get H id) fun b => WA id off ln esz bs LS H n k b) LS)
noncomputable def AFz (b off ln cap e : Nat) : AC3 := fun G esz bs LS H n k => Fa (Nat.blt cap (Nat.add ln (len LS))) (Es (bZ G b esz ln off) fun OS => La esz bs OS LS H n k)
noncomputable def Vj : AC3 := fun _ _ _ _ _ _ _ => False
noncomputable def ABr (v : V) : AC3 :=
 V.rec (motive_1 := fun _ => AC3) (motive_2 := fun _ => PUnit)
  (Vj)
  (fun _ _ _ => Vj)
  (fun _ => Vj)
  (fun _ _ => Vj)
  (Vj)
  (fun _ _ => Vj)
  (fun _ _ => Vj)
  (ALb)
  (fun a b c d e => AKn a b c d e)
  (fun a b c d => AHF a b c d)
  (fun a b c d e => AFz a b c d e)
  (Vj)
  (fun _ => Vj)
  (Vj)
  (fun _ _ _ _ _ => Vj)
  (fun _ _ => Vj)
  (fun _ _ => Vj)
  (Vj)
  (fun _ _ _ => Vj)
  ⟨⟩ (fun _ _ _ _ => ⟨⟩) v
noncomputable def AM9 (id off esz : Nat) (LS : Dk) (H : Heap) (n : Nat) (k : KV) (b : Np) : Prop :=
 Np.rec (motive := fun _ => Prop) (fun esz' cnt c => Fa (band (Nat.beq esz esz') (Nat.ble (Nat.add off (len LS)) cnt)) (Cj (len LS) fun m => k (.int .i64 (.ofNat m) 0) (T.set H id (.arr esz cnt (ED LS off c))) n)) (fun _ _ => False) False b
abbrev CpT := Nat -> Dk -> Heap -> Nat -> KV -> Prop
noncomputable def uH (id off ln : Nat) : CpT := fun esz LS H n k => Es (T.get H id) fun b => AM9 id off esz (TT ln LS) H n k b
noncomputable def xR (v : V) : (Nat) -> (Dk) -> (Heap) -> (Nat) -> (KV) -> Prop :=
 V.rec (motive_1 := fun _ => (Nat) -> (Dk) -> (Heap) -> (Nat) -> (KV) -> Prop) (motive_2 := fun _ => PUnit)
  (fun _ _ _ _ _ => False)
  (fun _ _ _ _ _ _ _ _ => False)
  (fun _ _ _ _ _ _ => False)
  (fun _ _ _ _ _ _ _ => False)
  (fun _ _ _ _ _ => False)
  (fun _ _ _ _ _ _ _ => False)
  (fun _ _ _ _ _ _ _ => False)
  (fun _ _ H n k => k (.int .i64 (.ofNat 0) 0) H n)
  (fun a b c _ e z L H n k => Fa (Nat.beq e z) (uH a b c z L H n k))
  (fun a b c d z L H n k => Fa (Nat.beq d z) (uH a b c z L H n k))
  (fun _ _ _ _ _ _ _ _ _ _ => False)
  (fun _ _ _ _ _ => False)
  (fun _ _ _ _ _ _ => False)
  (fun _ _ _ _ _ => False)
  (fun _ _ _ _ _ _ _ _ _ _ => False)
  (fun _ _ _ _ _ _ _ => False)
  (fun _ _ _ _ _ _ _ => False)
  (fun _ _ _ _ _ => False)
  (fun _ _ _ _ _ _ _ _ => False)
  ⟨⟩ (fun _ _ _ _ => ⟨⟩) v
noncomputable def rF {α : Type} (l : List α) : Nat -> List α :=
 List.rec (motive := fun _ => Nat -> List α) (fun _ => []) (fun y ys g i => Nat.rec (motive := fun _ => List α) ys (fun i _ => y :: g i) i) l
noncomputable def AKj (b : Np) : (ME -> Nat -> Option Np) -> Option Np := Np.rec (motive := fun _ => (ME -> Nat -> Option Np) -> Option Np) (fun _ _ _ _ => none) (fun es c f => f es c) (fun _ => none) b
noncomputable def APU (H : Heap) (id : Nat) (f : ME -> Nat -> Option Np) (g : Heap -> Prop) : Prop := Es (T.get H id) fun b => Es (AKj b f) fun b => g (T.set H id b)
noncomputable def qK (v : V) : (Heap) -> (ME -> Nat -> Option Np) -> (Heap -> Prop) -> Prop :=
 V.rec (motive_1 := fun _ => (Heap) -> (ME -> Nat -> Option Np) -> (Heap -> Prop) -> Prop) (motive_2 := fun _ => PUnit)
  (fun _ _ _ => False)
  (fun _ _ _ _ _ _ => False)
  (fun _ _ _ _ => False)
  (fun _ _ _ _ _ => False)
  (fun _ _ _ => False)
  (fun _ _ _ _ _ => False)
  (fun _ _ _ _ _ => False)
  (fun _ _ _ => False)
  (fun _ _ _ _ _ _ _ _ => False)
  (fun _ _ _ _ _ _ _ => False)
  (fun _ _ _ _ _ _ _ _ => False)
  (fun _ _ _ => False)
  (fun a H f g => APU H a f g)
  (fun _ _ _ => False)
  (fun _ _ _ _ _ _ _ _ => False)
  (fun _ _ _ _ _ => False)
  (fun _ _ _ _ _ => False)
  (fun _ _ _ => False)
  (fun _ _ _ _ _ _ => False)
  ⟨⟩ (fun _ _ _ _ => ⟨⟩) v
noncomputable def V.Qo (v : V) : (Nat -> LV -> LV -> Prop) -> Prop :=
 V.rec (motive_1 := fun _ => (Nat -> LV -> LV -> Prop) -> Prop) (motive_2 := fun _ => PUnit)
  (fun _ => False)
  (fun _ _ _ _ => False)
  (fun _ _ => False)
  (fun _ _ _ => False)
  (fun _ => False)
  (fun _ _ _ => False)
  (fun _ _ _ => False)
  (fun _ => False)
  (fun _ _ _ _ _ _ => False)
  (fun _ _ _ _ _ => False)
  (fun _ _ _ _ _ _ => False)
  (fun _ => False)
  (fun _ _ => False)
  (fun _ => False)
  (fun a b c _ _ f => f a b c)
  (fun _ _ _ => False)
  (fun _ _ _ => False)
  (fun _ => False)
  (fun _ _ _ _ => False)
  ⟨⟩ (fun _ _ _ _ => ⟨⟩) v
noncomputable def cZ (v : V) : LV :=
 V.rec (motive_1 := fun _ => LV) (motive_2 := fun _ => PUnit)
  ([])
  (fun _ _ _ => [])
  (fun _ => [])
  (fun _ _ => [])
  ([])
  (fun _ _ => [])
  (fun _ _ => [])
  ([])
  (fun _ _ _ _ _ => [])
  (fun _ _ _ _ => [])
  (fun _ _ _ _ _ => [])
  ([])
  (fun _ => [])
  ([])
  (fun _ _ _ _ _ => [])
  (fun _ _ => [])
  (fun a _ => a)
  ([])
  (fun _ _ _ => [])
  ⟨⟩ (fun _ _ _ _ => ⟨⟩) v
abbrev ExT := AP -> AQ -> RS -> Heap -> Nat -> KV -> Prop
noncomputable def ATG (x : X) : ExT := fun _ _ R H n k => k (x.ev R) H n
noncomputable def xSt (sz : Nat) (x v : X) : ExT := fun _ _ R H n k => Fa (band (XF (v.ev R)) (Nat.beq (len (BK (v.ev R))) sz)) (Es (stP (x.ev R) H sz (BK (v.ev R))) fun H => k .undef H n)
noncomputable def ARV (esz bs : Nat) (x y : X) : ExT := fun G _ R H n k => Es (elems (y.ev R) G H esz) fun LS => ABr (x.ev R) G esz bs LS H n k
noncomputable def AP6 (esz : Nat) (x y : X) : ExT := fun G _ R H n k => Es (elems (y.ev R) G H esz) fun LS => xR (x.ev R) esz LS H n k
noncomputable def ACg (ck : CK) (key v : V) (es : ME) (c : Nat) : Option Np := BG (bQ ck key es 0) fun r =>
 Option.rec (motive := fun _ => Option Np) (some (.map (cat es [(key, v, c)]) (Nat.succ c))) (fun p => BG (nth es p.1) fun e => some (.map (YS (e.1, v, e.2.2) es p.1) c)) r
noncomputable def AJW (ck : CK) (key : V) (es : ME) (c : Nat) : Option Np := BG (bQ ck key es 0) fun r =>
 Option.rec (motive := fun _ => Option Np) (some (.map es c)) (fun p => some (.map (rF es p.1) c)) r
noncomputable def ATL (c : CK) (m key v : X) : ExT := fun _ _ R H n k => qK (m.ev R) H (ACg c (key.ev R) (v.ev R)) fun H => k .undef H n
noncomputable def ARR (c : CK) (m key : X) : ExT := fun _ _ R H n k => qK (m.ev R) H (AJW c (key.ev R)) fun H => k (.GK []) H n
noncomputable def AS4 (m : X) : ExT := fun _ _ R H n k => qK (m.ev R) H (fun _ c => some (.map [] c)) fun H => k (.GK []) H n
noncomputable def AQC (f : Nat) (args : List X) : ExT := fun _ call R H n k => call f (Qm args R) H n k
noncomputable def AL0 (x : X) (args : List X) : ExT := fun _ call R H n k => V.Qo (x.ev R) fun f a c => call f (cat a (cat (Qm args R) c)) H n k
noncomputable def AMW (dp : P2) (x : X) (args : List X) : ExT := fun _ _ R H n k => V.Qo (x.ev R) fun f a c => k (.GK (.fn f (cat a (Qm args R)) c :: cZ (Jw (T.DI dp R.rg)))) H n
noncomputable def ASI (x : X) : ExT := fun _ _ R H n k => Es ((x.ev R).OO fun l c => some (.ptr l c)) fun v => V.kS v fun l c =>
 Cj n fun n => k (.NW n 0 l 1) (T.set H n (.arr 1 l (ED (PW l c) 0 .e))) (Nat.succ n)
noncomputable def AE.ex (o : AE) : ExT := AE.rec (motive := fun _ => ExT) ATG xSt ARV AP6 ATL ARR AS4 AQC AL0 AMW ASI o
noncomputable def ARY (p : P2) (v : V) (E : RS) : RS := RS.rec (motive := fun _ => P2 -> V -> RS) (fun L R p v => .mk L (T.Ia v p R)) E p v
noncomputable def APz (v : V) (E : RS) : RS := RS.rec (motive := fun _ => V -> RS) (fun L R v => .mk (v :: L) R) E v
noncomputable def ER (d : Zf) (v : V) : RS -> RS := Zf.rec (motive := fun _ => V -> RS -> RS) (fun _ R => R) ARY APz d v
abbrev KE := RS -> Heap -> Nat -> Prop
abbrev XoT := AP -> AQ -> Zf -> RS -> Heap -> Nat -> KE -> Prop
noncomputable def oN (o : AN) : XoT := fun G _ d R H n k => AU (o.ev G R H) fun v => k (ER d v R) H n
noncomputable def oA (o : AA) : XoT := fun _ _ d R H n k => o.al R fun b f => Cj n fun n => k (ER d (f n) R) (T.set H n b) (Nat.succ n)
noncomputable def oE (o : AE) : XoT := fun G call d R H n k => o.ex G call R H n fun v H n => k (ER d v R) H n
noncomputable def AO.ex (o : AO) : XoT := AO.rec (motive := fun _ => XoT) oN oA oE o
noncomputable def Ac (v : V) (b : Bool) (yes no : Prop) : Prop := v.yS fun t => Bool.rec (motive := fun _ => Prop -> Prop -> Prop) (fun _ n => n) (fun y _ => y) (AGf t b) yes no
noncomputable def Wq (v : V) : (Bool) -> (Prop) -> (Prop) -> Prop :=
 V.rec (motive_1 := fun _ => (Bool) -> (Prop) -> (Prop) -> Prop) (motive_2 := fun _ => PUnit)
  (fun _ _ _ => False)
  (fun _ _ _ _ _ _ => False)
  (fun a b' yes no => Bool.rec (motive := fun _ => Prop -> Prop -> Prop) (fun _ n => n) (fun y _ => y) (AGf a b') yes no)
  (fun _ _ _ _ _ => False)
  (fun _ _ _ => False)
  (fun _ _ _ _ _ => False)
  (fun _ _ _ _ _ => False)
  (fun _ _ _ => False)
  (fun _ _ _ _ _ _ _ _ => False)
  (fun _ _ _ _ _ _ _ => False)
  (fun _ _ _ _ _ _ _ _ => False)
  (fun _ _ _ => False)
  (fun _ _ _ _ => False)
  (fun _ _ _ => False)
  (fun _ _ _ _ _ _ _ _ => False)
  (fun _ _ _ _ _ => False)
  (fun a _ _ _ no => List.rec (motive := fun _ => Prop) no (fun _ _ _ => False) a)
  (fun _ _ _ => False)
  (fun _ _ _ _ _ _ => False)
  ⟨⟩ (fun _ _ _ _ => ⟨⟩) v
abbrev pR := AP -> AQ -> RS -> Heap -> Nat -> KE -> Prop
noncomputable def gNo (d : Zf) (o : AO) : pR := fun G call R H n k => o.ex G call d R H n k
noncomputable def gOn (x : X) (b : Bool) (d : Zf) (o : AO) : pR := fun G call R H n k => Wq (x.ev R) b (o.ex G call d R H n k) (k (ER d (.GK []) R) H n)
noncomputable def iZ.ex (o : iZ) : pR := iZ.rec (motive := fun _ => pR) (fun d g o => Gd.rec (motive := fun _ => Zf -> AO -> pR) gNo gOn g d o) o
noncomputable def ADn (v : V) : (IntKind) -> (Int) -> (Nat) -> Bool :=
 V.rec (motive_1 := fun _ => (IntKind) -> (Int) -> (Nat) -> Bool) (motive_2 := fun _ => PUnit)
  (fun _ _ _ => false)
  (fun a b c k n s => band (keq k a) (band (ieq n b) (band (Nat.beq s 0) (Nat.beq c 0))))
  (fun _ _ _ _ => false)
  (fun _ _ _ _ _ => false)
  (fun _ _ _ => false)
  (fun _ _ _ _ _ => false)
  (fun _ _ _ _ _ => false)
  (fun _ _ _ => false)
  (fun _ _ _ _ _ _ _ _ => false)
  (fun _ _ _ _ _ _ _ => false)
  (fun _ _ _ _ _ _ _ _ => false)
  (fun _ _ _ => false)
  (fun _ _ _ _ => false)
  (fun _ _ _ => false)
  (fun _ _ _ _ _ _ _ _ => false)
  (fun _ _ _ _ _ => false)
  (fun _ _ _ _ _ => false)
  (fun _ _ _ => false)
  (fun _ _ _ _ _ _ => false)
  ⟨⟩ (fun _ _ _ _ => ⟨⟩) v
noncomputable def AC0 (v : V) : (Bool) -> Bool :=
 V.rec (motive_1 := fun _ => (Bool) -> Bool) (motive_2 := fun _ => PUnit)
  (fun _ => false)
  (fun _ _ _ _ => false)
  (fun a x => AGf x a)
  (fun _ _ _ => false)
  (fun _ => false)
  (fun _ _ _ => false)
  (fun _ _ _ => false)
  (fun _ => false)
  (fun _ _ _ _ _ _ => false)
  (fun _ _ _ _ _ => false)
  (fun _ _ _ _ _ _ => false)
  (fun _ => false)
  (fun _ _ => false)
  (fun _ => false)
  (fun _ _ _ _ _ _ => false)
  (fun _ _ _ => false)
  (fun _ _ _ => false)
  (fun _ => false)
  (fun _ _ _ _ => false)
  ⟨⟩ (fun _ _ _ _ => ⟨⟩) v
noncomputable def ADZ (v : V) : (Nat) -> (Nat) -> Bool :=
 V.rec (motive_1 := fun _ => (Nat) -> (Nat) -> Bool) (motive_2 := fun _ => PUnit)
  (fun _ _ => false)
  (fun _ _ _ _ _ => false)
  (fun _ _ _ => false)
  (fun a b l m => band (Nat.beq l a) (Nat.beq m b))
  (fun _ _ => false)
  (fun _ _ _ _ => false)
  (fun _ _ _ _ => false)
  (fun _ _ => false)
  (fun _ _ _ _ _ _ _ => false)
  (fun _ _ _ _ _ _ => false)
  (fun _ _ _ _ _ _ _ => false)
  (fun _ _ => false)
  (fun _ _ _ => false)
  (fun _ _ => false)
  (fun _ _ _ _ _ _ _ => false)
  (fun _ _ _ _ => false)
  (fun _ _ _ _ => false)
  (fun _ _ => false)
  (fun _ _ _ _ _ => false)
  ⟨⟩ (fun _ _ _ _ => ⟨⟩) v
noncomputable def yK (v : V) : Bool :=
 V.rec (motive_1 := fun _ => Bool) (motive_2 := fun _ => PUnit)
  (false)
  (fun _ _ _ => false)
  (fun _ => false)
  (fun _ _ => false)
  (true)
  (fun _ _ => false)
  (fun _ _ => false)
  (false)
  (fun _ _ _ _ _ => false)
  (fun _ _ _ _ => false)
  (fun _ _ _ _ _ => false)
  (false)
  (fun _ => false)
  (false)
  (fun _ _ _ _ _ => false)
  (fun _ _ => false)
  (fun _ _ => false)
  (false)
  (fun _ _ _ => false)
  ⟨⟩ (fun _ _ _ _ => ⟨⟩) v
noncomputable def yT (v : V) : Bool :=
 V.rec (motive_1 := fun _ => Bool) (motive_2 := fun _ => PUnit)
  (false)
  (fun _ _ _ => false)
  (fun _ => false)
  (fun _ _ => false)
  (false)
  (fun _ _ => false)
  (fun _ _ => false)
  (true)
  (fun _ _ _ _ _ => false)
  (fun _ _ _ _ => false)
  (fun _ _ _ _ _ => false)
  (false)
  (fun _ => false)
  (false)
  (fun _ _ _ _ _ => false)
  (fun _ _ => false)
  (fun _ _ => false)
  (false)
  (fun _ _ _ => false)
  ⟨⟩ (fun _ _ _ _ => ⟨⟩) v
noncomputable def y7 (v : V) : Bool :=
 V.rec (motive_1 := fun _ => Bool) (motive_2 := fun _ => PUnit)
  (false)
  (fun _ _ _ => false)
  (fun _ => false)
  (fun _ _ => false)
  (false)
  (fun _ _ => false)
  (fun _ _ => false)
  (false)
  (fun _ _ _ _ _ => false)
  (fun _ _ _ _ => false)
  (fun _ _ _ _ _ => false)
  (true)
  (fun _ => false)
  (false)
  (fun _ _ _ _ _ => false)
  (fun _ _ => false)
  (fun _ _ => false)
  (false)
  (fun _ _ _ => false)
  ⟨⟩ (fun _ _ _ _ => ⟨⟩) v
noncomputable def yu (v : V) : Bool :=
 V.rec (motive_1 := fun _ => Bool) (motive_2 := fun _ => PUnit)
  (false)
  (fun _ _ _ => false)
  (fun _ => false)
  (fun _ _ => false)
  (false)
  (fun _ _ => false)
  (fun _ _ => false)
  (false)
  (fun _ _ _ _ _ => false)
  (fun _ _ _ _ => false)
  (fun _ _ _ _ _ => false)
  (false)
  (fun _ => false)
  (true)
  (fun _ _ _ _ _ => false)
  (fun _ _ => false)
  (fun _ _ => false)
  (false)
  (fun _ _ _ => false)
  ⟨⟩ (fun _ _ _ _ => ⟨⟩) v
noncomputable def AGq (v : V) : (Nat) -> (Nat) -> Bool :=
 V.rec (motive_1 := fun _ => (Nat) -> (Nat) -> Bool) (motive_2 := fun _ => PUnit)
  (fun _ _ => false)
  (fun _ _ _ _ _ => false)
  (fun _ _ _ => false)
  (fun _ _ _ _ => false)
  (fun _ _ => false)
  (fun a b l m => band (Nat.beq l a) (Nat.beq m b))
  (fun _ _ _ _ => false)
  (fun _ _ => false)
  (fun _ _ _ _ _ _ _ => false)
  (fun _ _ _ _ _ _ => false)
  (fun _ _ _ _ _ _ _ => false)
  (fun _ _ => false)
  (fun _ _ _ => false)
  (fun _ _ => false)
  (fun _ _ _ _ _ _ _ => false)
  (fun _ _ _ _ => false)
  (fun _ _ _ _ => false)
  (fun _ _ => false)
  (fun _ _ _ _ _ => false)
  ⟨⟩ (fun _ _ _ _ => ⟨⟩) v
noncomputable def ADI (v : V) : (Nat) -> (Nat) -> Bool :=
 V.rec (motive_1 := fun _ => (Nat) -> (Nat) -> Bool) (motive_2 := fun _ => PUnit)
  (fun _ _ => false)
  (fun _ _ _ _ _ => false)
  (fun _ _ _ => false)
  (fun _ _ _ _ => false)
  (fun _ _ => false)
  (fun _ _ _ _ => false)
  (fun a b l m => band (Nat.beq l a) (Nat.beq m b))
  (fun _ _ => false)
  (fun _ _ _ _ _ _ _ => false)
  (fun _ _ _ _ _ _ => false)
  (fun _ _ _ _ _ _ _ => false)
  (fun _ _ => false)
  (fun _ _ _ => false)
  (fun _ _ => false)
  (fun _ _ _ _ _ _ _ => false)
  (fun _ _ _ _ => false)
  (fun _ _ _ _ => false)
  (fun _ _ => false)
  (fun _ _ _ _ _ => false)
  ⟨⟩ (fun _ _ _ _ => ⟨⟩) v
noncomputable def AHp (v : V) : (Nat) -> Bool :=
 V.rec (motive_1 := fun _ => (Nat) -> Bool) (motive_2 := fun _ => PUnit)
  (fun _ => false)
  (fun _ _ _ _ => false)
  (fun _ _ => false)
  (fun _ _ _ => false)
  (fun _ => false)
  (fun _ _ _ => false)
  (fun _ _ _ => false)
  (fun _ => false)
  (fun _ _ _ _ _ _ => false)
  (fun _ _ _ _ _ => false)
  (fun _ _ _ _ _ _ => false)
  (fun _ => false)
  (fun a l => Nat.beq l a)
  (fun _ => false)
  (fun _ _ _ _ _ _ => false)
  (fun _ _ _ => false)
  (fun _ _ _ => false)
  (fun _ => false)
  (fun _ _ _ _ => false)
  ⟨⟩ (fun _ _ _ _ => ⟨⟩) v
noncomputable def AH5 (v : V) : (Nat) -> (Nat) -> (Nat) -> (Nat) -> (Nat) -> Bool :=
 V.rec (motive_1 := fun _ => (Nat) -> (Nat) -> (Nat) -> (Nat) -> (Nat) -> Bool) (motive_2 := fun _ => PUnit)
  (fun _ _ _ _ _ => false)
  (fun _ _ _ _ _ _ _ _ => false)
  (fun _ _ _ _ _ _ => false)
  (fun _ _ _ _ _ _ _ => false)
  (fun _ _ _ _ _ => false)
  (fun _ _ _ _ _ _ _ => false)
  (fun _ _ _ _ _ _ _ => false)
  (fun _ _ _ _ _ => false)
  (fun a b c d e i j k l m => band (Nat.beq i a) (band (Nat.beq j b) (band (Nat.beq k c) (band (Nat.beq l d) (Nat.beq m e)))))
  (fun _ _ _ _ _ _ _ _ _ => false)
  (fun _ _ _ _ _ _ _ _ _ _ => false)
  (fun _ _ _ _ _ => false)
  (fun _ _ _ _ _ _ => false)
  (fun _ _ _ _ _ => false)
  (fun _ _ _ _ _ _ _ _ _ _ => false)
  (fun _ _ _ _ _ _ _ => false)
  (fun _ _ _ _ _ _ _ => false)
  (fun _ _ _ _ _ => false)
  (fun _ _ _ _ _ _ _ _ => false)
  ⟨⟩ (fun _ _ _ _ => ⟨⟩) v
noncomputable def ADq (v : V) : (Nat) -> (Nat) -> (Nat) -> (Nat) -> Bool :=
 V.rec (motive_1 := fun _ => (Nat) -> (Nat) -> (Nat) -> (Nat) -> Bool) (motive_2 := fun _ => PUnit)
  (fun _ _ _ _ => false)
  (fun _ _ _ _ _ _ _ => false)
  (fun _ _ _ _ _ => false)
  (fun _ _ _ _ _ _ => false)
  (fun _ _ _ _ => false)
  (fun _ _ _ _ _ _ => false)
  (fun _ _ _ _ _ _ => false)
  (fun _ _ _ _ => false)
  (fun _ _ _ _ _ _ _ _ _ => false)
  (fun a b c d i j k l => band (Nat.beq i a) (band (Nat.beq j b) (band (Nat.beq k c) (Nat.beq l d))))
  (fun _ _ _ _ _ _ _ _ _ => false)
  (fun _ _ _ _ => false)
  (fun _ _ _ _ _ => false)
  (fun _ _ _ _ => false)
  (fun _ _ _ _ _ _ _ _ _ => false)
  (fun _ _ _ _ _ _ => false)
  (fun _ _ _ _ _ _ => false)
  (fun _ _ _ _ => false)
  (fun _ _ _ _ _ _ _ => false)
  ⟨⟩ (fun _ _ _ _ => ⟨⟩) v
noncomputable def AG8 (v : V) : (Nat) -> (Nat) -> (Nat) -> (Nat) -> (Nat) -> Bool :=
 V.rec (motive_1 := fun _ => (Nat) -> (Nat) -> (Nat) -> (Nat) -> (Nat) -> Bool) (motive_2 := fun _ => PUnit)
  (fun _ _ _ _ _ => false)
  (fun _ _ _ _ _ _ _ _ => false)
  (fun _ _ _ _ _ _ => false)
  (fun _ _ _ _ _ _ _ => false)
  (fun _ _ _ _ _ => false)
  (fun _ _ _ _ _ _ _ => false)
  (fun _ _ _ _ _ _ _ => false)
  (fun _ _ _ _ _ => false)
  (fun _ _ _ _ _ _ _ _ _ _ => false)
  (fun _ _ _ _ _ _ _ _ _ => false)
  (fun a b c d e i j k l m => band (Nat.beq i a) (band (Nat.beq j b) (band (Nat.beq k c) (band (Nat.beq l d) (Nat.beq m e)))))
  (fun _ _ _ _ _ => false)
  (fun _ _ _ _ _ _ => false)
  (fun _ _ _ _ _ => false)
  (fun _ _ _ _ _ _ _ _ _ _ => false)
  (fun _ _ _ _ _ _ _ => false)
  (fun _ _ _ _ _ _ _ => false)
  (fun _ _ _ _ _ => false)
  (fun _ _ _ _ _ _ _ _ => false)
  ⟨⟩ (fun _ _ _ _ => ⟨⟩) v
noncomputable def Jz (v : V) : (V) -> Bool :=
 V.rec (motive_1 := fun _ => (V) -> Bool) (motive_2 := fun _ => PUnit)
  (fun _ => false)
  (fun a b c y => ADn y a b c)
  (fun a y => AC0 y a)
  (fun a b y => ADZ y a b)
  (fun y => yK y)
  (fun a b y => AGq y a b)
  (fun a b y => ADI y a b)
  (fun y => yT y)
  (fun a b c d e y => AH5 y a b c d e)
  (fun a b c d y => ADq y a b c d)
  (fun a b c d e y => AG8 y a b c d e)
  (fun y => y7 y)
  (fun a y => AHp y a)
  (fun y => yu y)
  (fun _ _ _ _ _ _ => false)
  (fun _ _ _ => false)
  (fun _ _ _ => false)
  (fun _ => false)
  (fun _ _ _ _ => false)
  ⟨⟩ (fun _ _ _ _ => ⟨⟩) v
noncomputable def lQ (a : List V) : List V -> Bool :=
 List.rec (motive := fun _ => List V -> Bool) (fun b => List.rec (motive := fun _ => Bool) true (fun _ _ _ => false) b)
  (fun x _ g b => List.rec (motive := fun _ => Bool) false (fun y ys _ => band (Jz x y) (g ys)) b) a
noncomputable def AKS (v : V) : (LV) -> Bool :=
 V.rec (motive_1 := fun _ => (LV) -> Bool) (motive_2 := fun _ => PUnit)
  (fun _ => false)
  (fun _ _ _ _ => false)
  (fun _ _ => false)
  (fun _ _ _ => false)
  (fun _ => false)
  (fun _ _ _ => false)
  (fun _ _ _ => false)
  (fun _ => false)
  (fun _ _ _ _ _ _ => false)
  (fun _ _ _ _ _ => false)
  (fun _ _ _ _ _ _ => false)
  (fun _ => false)
  (fun _ _ => false)
  (fun _ => false)
  (fun _ _ _ _ _ _ => false)
  (fun a _ l => lQ l a)
  (fun _ _ _ => false)
  (fun _ => false)
  (fun _ _ _ _ => false)
  ⟨⟩ (fun _ _ _ _ => ⟨⟩) v
noncomputable def AKZ (v : V) : (LV) -> Bool :=
 V.rec (motive_1 := fun _ => (LV) -> Bool) (motive_2 := fun _ => PUnit)
  (fun _ => false)
  (fun _ _ _ _ => false)
  (fun _ _ => false)
  (fun _ _ _ => false)
  (fun _ => false)
  (fun _ _ _ => false)
  (fun _ _ _ => false)
  (fun _ => false)
  (fun _ _ _ _ _ _ => false)
  (fun _ _ _ _ _ => false)
  (fun _ _ _ _ _ _ => false)
  (fun _ => false)
  (fun _ _ => false)
  (fun _ => false)
  (fun _ _ _ _ _ _ => false)
  (fun _ _ _ => false)
  (fun a _ l => lQ l a)
  (fun _ => false)
  (fun _ _ _ _ => false)
  ⟨⟩ (fun _ _ _ _ => ⟨⟩) v
noncomputable def ABU (v : V) : Bool :=
 V.rec (motive_1 := fun _ => Bool) (motive_2 := fun _ => PUnit)
  (true)
  (fun _ _ _ => false)
  (fun _ => false)
  (fun _ _ => false)
  (false)
  (fun _ _ => false)
  (fun _ _ => false)
  (false)
  (fun _ _ _ _ _ => false)
  (fun _ _ _ _ => false)
  (fun _ _ _ _ _ => false)
  (false)
  (fun _ => false)
  (false)
  (fun _ _ _ _ _ => false)
  (fun _ _ => false)
  (fun _ _ => false)
  (false)
  (fun _ _ _ => false)
  ⟨⟩ (fun _ _ _ _ => ⟨⟩) v
noncomputable def Bz (v : V) : (V) -> Bool :=
 V.rec (motive_1 := fun _ => (V) -> Bool) (motive_2 := fun _ => PUnit)
  (fun y => ABU y)
  (fun a b c y => ADn y a b c)
  (fun a y => AC0 y a)
  (fun a b y => ADZ y a b)
  (fun y => yK y)
  (fun a b y => AGq y a b)
  (fun a b y => ADI y a b)
  (fun y => yT y)
  (fun a b c d e y => AH5 y a b c d e)
  (fun a b c d y => ADq y a b c d)
  (fun a b c d e y => AG8 y a b c d e)
  (fun y => y7 y)
  (fun a y => AHp y a)
  (fun y => yu y)
  (fun _ _ _ _ _ _ => false)
  (fun a _ y => AKS y a)
  (fun a _ y => AKZ y a)
  (fun _ => false)
  (fun _ _ _ _ => false)
  ⟨⟩ (fun _ _ _ _ => ⟨⟩) v
inductive AI where
 | op (o : iZ)
 | re (d : P2) (g : Gd) (o : AN)
inductive AC where
 | skip
 | ops (l : List iZ)
 | reg (l : List AI)
 | seq (a b : AC)
 | cond (x : X) (a b : AC)
 | block (id : Nat) (c : AC)
 | loop (c : AC)
 | exit (id : Nat)
 | ret
noncomputable def BX (l : List iZ) : pR :=
 List.rec (motive := fun _ => pR) (fun _ _ R H n k => k R H n) (fun o _ g G call R H n k => o.ex G call R H n fun R H n => g G call R H n k) l
abbrev ReT := AP -> RS -> Heap -> P2 -> AN -> Prop -> Prop
noncomputable def AOy : ReT := fun G R H d o k => AU (o.ev G R H) fun v => Fa (Bz v (Jw (T.DI d R.rg))) k
noncomputable def AR0 (x : X) (b : Bool) : ReT := fun G R H d o k => Wq (x.ev R) b (AU (o.ev G R H) fun v => Fa (Bz v (Jw (T.DI d R.rg))) k) k
noncomputable def AM5 (g : Gd) : ReT := Gd.rec (motive := fun _ => ReT) AOy AR0 g
noncomputable def AI.ex (i : AI) : pR := AI.rec (motive := fun _ => pR) (fun o => o.ex) (fun d g o G _ R H n k => AM5 g G R H d o (k R H n)) i
noncomputable def AY (l : List AI) : pR :=
 List.rec (motive := fun _ => pR) (fun _ _ R H n k => k R H n) (fun i _ g G call R H n k => i.ex G call R H n fun R H n => g G call R H n k) l
abbrev KX := Nat -> K
abbrev M := AP -> AQ -> Nat -> FM -> Heap -> Nat -> K -> KX -> K -> Prop
noncomputable def Bg : M := fun _ _ _ R H n k _ _ => k R H n
noncomputable def AIT (l : List iZ) : M := fun G call _ R H n k _ _ => BX l G call (.mk [] R) H n fun E H n => k E.rg H n
noncomputable def AIa (l : List AI) : M := fun G call _ R H n k _ _ => AY l G call (.mk [] R) H n fun E H n => k E.rg H n
noncomputable def AFo (_ _ : AC) (a b : M) : M := fun G call lf R H n k x r => a G call lf R H n (fun R H n => b G call lf R H n k x r) x r
noncomputable def ABk (c : X) (_ _ : AC) (a b : M) : M := fun G call lf R H n k x r => Ac (c.ev (.mk [] R)) true (a G call lf R H n k x r) (b G call lf R H n k x r)
noncomputable def Du (id : Nat) (k : K) (x : KX) : KX := fun i R H n => Bool.rec (motive := fun _ => Prop -> Prop -> Prop) (fun a _ => a) (fun _ b => b) (Nat.beq i id) (x i R H n) (k R H n)
noncomputable def uf (id : Nat) (_ : AC) (a : M) : M := fun G call lf R H n k x r => a G call lf R H n k (Du id k x) r
noncomputable def TU (a : M) (G : AP) (call : AQ) (lf0 lf : Nat) : FM -> Heap -> Nat -> KX -> K -> Prop :=
 Nat.rec (motive := fun _ => FM -> Heap -> Nat -> KX -> K -> Prop) (fun _ _ _ _ _ => False) (fun _ g R H n x r => a G call lf0 R H n (fun R H n => g R H n x r) x r) lf
noncomputable def AOc (_ : AC) (a : M) : M := fun G call lf R H n _ x r => TU a G call lf lf R H n x r
noncomputable def AFa (id : Nat) : M := fun _ _ _ R H n _ x _ => x id R H n
noncomputable def AMo : M := fun _ _ _ R H n _ _ r => r R H n
noncomputable def AC.ex (c : AC) : M := AC.rec (motive := fun _ => M) Bg AIT AIa AFo ABk uf AOc AFa AMo c
inductive AR where
 | tmp (p : P2) | cell1 (p : P2) | celln (p : P2) (n : Nat)
inductive AF where
 | mk (np : Nat) (code : AC) (res : List AR) (dp : Zf) (dg : Nat)
noncomputable def AR.get (r : AR) : AP -> FM -> Heap -> Option V :=
 AR.rec (motive := fun _ => AP -> FM -> Heap -> Option V) (fun p _ R _ => some (Jw (T.DI p R))) (fun p G R H => Ku (lH (Jw (T.DI p R)) G H 1) fun L => nth L 0)
  (fun p n G R H => Ku (lH (Jw (T.DI p R)) G H n) fun L => some (.agg L)) r
noncomputable def bK (l : List AR) : AP -> FM -> Heap -> Option LV :=
 List.rec (motive := fun _ => AP -> FM -> Heap -> Option LV) (fun _ _ _ => some []) (fun r _ g G R H => BG (r.get G R H) fun v => BG (g G R H) fun vs => some (v :: vs)) l
noncomputable def Eh (l : List V) : V := List.rec (motive := fun _ => V) (V.GK []) (fun v vs _ => List.rec (motive := fun _ => V) v (fun w ws _ => V.GK (v :: w :: ws)) vs) l
noncomputable def WQ (args : List V) : Nat -> FM -> FM :=
 List.rec (motive := fun _ => Nat -> FM -> FM) (fun _ R => R) (fun v _ g i R => g (Nat.succ i) (T.set R i v)) args
noncomputable def JR (dg : Nat) (l : List V) : AQ -> Heap -> Nat -> (Heap -> Nat -> Prop) -> Prop :=
 List.rec (motive := fun _ => AQ -> Heap -> Nat -> (Heap -> Nat -> Prop) -> Prop) (fun _ H n k => k H n)
  (fun v _ g call H n k => V.Qo v fun f a c => Fa (Nat.beq f dg) (call f (cat a c) H n fun _ H n => g call H n k)) l
noncomputable def qJ (res : List AR) (G : AP) (k : KV) : K := fun R H n => Es (bK res G R H) fun l => k (Eh l) H n
noncomputable def Fh (res : List AR) (dg : Nat) (d : Zf) : AP -> AQ -> KV -> K :=
 Zf.rec (motive := fun _ => AP -> AQ -> KV -> K) (fun G _ k => qJ res G k) (fun p G call k R H n => JR dg (cZ (Jw (T.DI p R))) call H n fun H n => qJ res G k R H n) (fun G _ k => qJ res G k) d
noncomputable def noX : KX := fun _ _ _ _ => False
noncomputable def fF (f : AF) : AP -> AQ -> Nat -> List V -> Heap -> Nat -> KV -> Prop :=
 AF.rec (motive := fun _ => AP -> AQ -> Nat -> List V -> Heap -> Nat -> KV -> Prop) (fun np code res d dg G call lf args H n k => Fa (Nat.beq (len args) np) (code.ex G call lf (WQ args 0 .e) H n (Fh res dg d G call k) noX (Fh res dg d G call k))) f
noncomputable def run (F : T AF) (G : AP) (lf : Nat) (fuel : Nat) : AQ :=
 Nat.rec (motive := fun _ => AQ) (fun _ _ _ _ _ => False) (fun _ call f args H n k => Es (T.get F f) fun af => fF af G call lf args H n k) fuel
end Go.Eng
