/- Part of a proof: texts En1 En2 of the engine and what is proved with it; nothing is assumed. -/
import Derived.Calls
import Derived.Defers
import Derived.Orders
import Derived.KernelRfl
import Derived.Laws.Entries
set_option linter.unusedVariables false
set_option linter.unusedSimpArgs false
namespace Go.Eng
inductive P2 where
 | h | z (p : P2) | o (p : P2)
deriving DecidableEq
inductive T (α : Type) where
 | e | n (v : Option α) (l r : T α)
noncomputable def T.val {α : Type} (t : T α) : Option α := T.rec none (fun v _ _ _ _ => v) t
noncomputable def T.left {α : Type} (t : T α) : T α := T.rec .e (fun _ l _ _ _ => l) t
noncomputable def T.right {α : Type} (t : T α) : T α := T.rec .e (fun _ _ r _ _ => r) t
noncomputable def T.DU {α : Type} (p : P2) : T α -> Option α :=
 P2.rec (motive := fun _ => T α -> Option α) T.val (fun _ g t => g t.left) (fun _ g t => g t.right) p
noncomputable def T.Ik {α : Type} (x : α) (p : P2) : T α -> T α :=
 P2.rec (motive := fun _ => T α -> T α) (fun t => .n (some x) t.left t.right)
  (fun _ g t => .n t.val (g t.left) t.right) (fun _ g t => .n t.val t.left (g t.right)) p
noncomputable def AEo (f : Nat) : Nat -> P2 :=
 Nat.rec (motive := fun _ => Nat -> P2) (fun _ => .h)
  (fun _ g k => Nat.rec (motive := fun _ => P2) .h
   (fun m _ => Bool.rec (P2.o (g (Nat.div m 2))) (P2.z (g (Nat.div m 2))) (Nat.beq (Nat.mod m 2) 0)) k) f
noncomputable def MI (k : Nat) : P2 := AEo (Nat.succ k) k
noncomputable def T.get {α : Type} (t : T α) (k : Nat) : Option α := T.DU (MI k) t
noncomputable def T.set {α : Type} (t : T α) (k : Nat) (x : α) : T α := T.Ik x (MI k) t
inductive V where
 | undef
 | int (k : IntKind) (n : Int) (s : Nat)
 | bool (b : Bool)
 | str (len code : Nat)
 | ABb | ptr (id off : Nat) | gptr (b off : Nat)
 | Ae | sl (id off len cap esz : Nat) | Nr (id off len esz : Nat) | rsl (b off len cap esz : Nat)
 | AJo | map (id : Nat)
 | AKd | fn (f : Nat) (first caps : List V)
 | agg (cs : List V)
 | Gh (vs : List V)
 | AJj | iface (t : Nat) (v : V)
inductive OL where
 | arr (esz cnt : Nat) (c : T (List V))
 | map (es : List (V × V × Nat)) (clock : Nat)
 | dead
abbrev Heap := T OL
abbrev FT := T V
abbrev AP := Nat -> Nat -> Nat -> Option (List V)
inductive X where
 | r (p : P2) | c (v : V) | s (i : Nat)
noncomputable def KD (o : Option V) : V := Option.rec V.undef (fun v => v) o
noncomputable def AGz (l : List V) : Nat -> V :=
 List.rec (motive := fun _ => Nat -> V) (fun _ => .undef) (fun x _ g i => Nat.rec (motive := fun _ => V) x (fun i _ => g i) i) l
inductive RS where
 | mk (L : List V) (R : FT)
noncomputable def RS.st (E : RS) : List V := RS.rec (fun L _ => L) E
noncomputable def RS.rg (E : RS) : FT := RS.rec (fun _ R => R) E
noncomputable def X.ev (x : X) : RS -> V := X.rec (motive := fun _ => RS -> V) (fun p E => KD (T.DU p E.rg)) (fun v _ => v) (fun i E => AGz E.st i) x
noncomputable def V.FH (v : V) : (IntKind -> Int -> Nat -> Option V) -> Option V :=
 V.rec (motive_1 := fun _ => (IntKind -> Int -> Nat -> Option V) -> Option V) (motive_2 := fun _ => PUnit)
  (fun _ => none)
  (fun a b c f => f a b c)
  (fun _ _ => none)
  (fun _ _ _ => none)
  (fun _ => none)
  (fun _ _ _ => none)
  (fun _ _ _ => none)
  (fun _ => none)
  (fun _ _ _ _ _ _ => none)
  (fun _ _ _ _ _ => none)
  (fun _ _ _ _ _ _ => none)
  (fun _ => none)
  (fun _ _ => none)
  (fun _ => none)
  (fun _ _ _ _ _ _ => none)
  (fun _ _ _ => none)
  (fun _ _ _ => none)
  (fun _ => none)
  (fun _ _ _ _ => none)
  ⟨⟩ (fun _ _ _ _ => ⟨⟩) v
noncomputable def V.bT (v : V) : (Bool -> Option V) -> Option V :=
 V.rec (motive_1 := fun _ => (Bool -> Option V) -> Option V) (motive_2 := fun _ => PUnit)
  (fun _ => none)
  (fun _ _ _ _ => none)
  (fun a f => f a)
  (fun _ _ _ => none)
  (fun _ => none)
  (fun _ _ _ => none)
  (fun _ _ _ => none)
  (fun _ => none)
  (fun _ _ _ _ _ _ => none)
  (fun _ _ _ _ _ => none)
  (fun _ _ _ _ _ _ => none)
  (fun _ => none)
  (fun _ _ => none)
  (fun _ => none)
  (fun _ _ _ _ _ _ => none)
  (fun _ _ _ => none)
  (fun _ _ _ => none)
  (fun _ => none)
  (fun _ _ _ _ => none)
  ⟨⟩ (fun _ _ _ _ => ⟨⟩) v
noncomputable def V.AAa (v : V) : (Bool -> Prop) -> Prop :=
 V.rec (motive_1 := fun _ => (Bool -> Prop) -> Prop) (motive_2 := fun _ => PUnit)
  (fun _ => False)
  (fun _ _ _ _ => False)
  (fun a f => f a)
  (fun _ _ _ => False)
  (fun _ => False)
  (fun _ _ _ => False)
  (fun _ _ _ => False)
  (fun _ => False)
  (fun _ _ _ _ _ _ => False)
  (fun _ _ _ _ _ => False)
  (fun _ _ _ _ _ _ => False)
  (fun _ => False)
  (fun _ _ => False)
  (fun _ => False)
  (fun _ _ _ _ _ _ => False)
  (fun _ _ _ => False)
  (fun _ _ _ => False)
  (fun _ => False)
  (fun _ _ _ _ => False)
  ⟨⟩ (fun _ _ _ _ => ⟨⟩) v
noncomputable def V.Oq (v : V) : (Nat -> Nat -> Option V) -> Option V :=
 V.rec (motive_1 := fun _ => (Nat -> Nat -> Option V) -> Option V) (motive_2 := fun _ => PUnit)
  (fun _ => none)
  (fun _ _ _ _ => none)
  (fun _ _ => none)
  (fun a b f => f a b)
  (fun _ => none)
  (fun _ _ _ => none)
  (fun _ _ _ => none)
  (fun _ => none)
  (fun _ _ _ _ _ _ => none)
  (fun _ _ _ _ _ => none)
  (fun _ _ _ _ _ _ => none)
  (fun _ => none)
  (fun _ _ => none)
  (fun _ => none)
  (fun _ _ _ _ _ _ => none)
  (fun _ _ _ => none)
  (fun _ _ _ => none)
  (fun _ => none)
  (fun _ _ _ _ => none)
  ⟨⟩ (fun _ _ _ _ => ⟨⟩) v
noncomputable def V.aQ (v : V) : (List V -> Option V) -> Option V :=
 V.rec (motive_1 := fun _ => (List V -> Option V) -> Option V) (motive_2 := fun _ => PUnit)
  (fun _ => none)
  (fun _ _ _ _ => none)
  (fun _ _ => none)
  (fun _ _ _ => none)
  (fun _ => none)
  (fun _ _ _ => none)
  (fun _ _ _ => none)
  (fun _ => none)
  (fun _ _ _ _ _ _ => none)
  (fun _ _ _ _ _ => none)
  (fun _ _ _ _ _ _ => none)
  (fun _ => none)
  (fun _ _ => none)
  (fun _ => none)
  (fun _ _ _ _ _ _ => none)
  (fun a _ f => f a)
  (fun _ _ _ => none)
  (fun _ => none)
  (fun _ _ _ _ => none)
  ⟨⟩ (fun _ _ _ _ => ⟨⟩) v
noncomputable def V.ABy (v : V) : (List V -> Option V) -> Option V :=
 V.rec (motive_1 := fun _ => (List V -> Option V) -> Option V) (motive_2 := fun _ => PUnit)
  (fun _ => none)
  (fun _ _ _ _ => none)
  (fun _ _ => none)
  (fun _ _ _ => none)
  (fun _ => none)
  (fun _ _ _ => none)
  (fun _ _ _ => none)
  (fun _ => none)
  (fun _ _ _ _ _ _ => none)
  (fun _ _ _ _ _ => none)
  (fun _ _ _ _ _ _ => none)
  (fun _ => none)
  (fun _ _ => none)
  (fun _ => none)
  (fun _ _ _ _ _ _ => none)
  (fun _ _ _ => none)
  (fun a _ f => f a)
  (fun _ => none)
  (fun _ _ _ _ => none)
  ⟨⟩ (fun _ _ _ _ => ⟨⟩) v
noncomputable def V.xq (v : V) : (Nat -> Nat -> Option V) -> (Nat -> Nat -> Option V) -> Option V :=
 V.rec (motive_1 := fun _ => (Nat -> Nat -> Option V) -> (Nat -> Nat -> Option V) -> Option V) (motive_2 := fun _ => PUnit)
  (fun _ _ => none)
  (fun _ _ _ _ _ => none)
  (fun _ _ _ => none)
  (fun _ _ _ _ => none)
  (fun _ _ => none)
  (fun a b f _ => f a b)
  (fun a b _ g => g a b)
  (fun _ _ => none)
  (fun _ _ _ _ _ _ _ => none)
  (fun _ _ _ _ _ _ => none)
  (fun _ _ _ _ _ _ _ => none)
  (fun _ _ => none)
  (fun _ _ _ => none)
  (fun _ _ => none)
  (fun _ _ _ _ _ _ _ => none)
  (fun _ _ _ _ => none)
  (fun _ _ _ _ => none)
  (fun _ _ => none)
  (fun _ _ _ _ _ => none)
  ⟨⟩ (fun _ _ _ _ => ⟨⟩) v
noncomputable def V.ACU (v : V) : (Option V) -> (Nat -> Option V) -> Option V :=
 V.rec (motive_1 := fun _ => (Option V) -> (Nat -> Option V) -> Option V) (motive_2 := fun _ => PUnit)
  (fun _ _ => none)
  (fun _ _ _ _ _ => none)
  (fun _ _ _ => none)
  (fun _ _ _ _ => none)
  (fun _ _ => none)
  (fun _ _ _ _ => none)
  (fun _ _ _ _ => none)
  (fun _ _ => none)
  (fun _ _ _ _ _ _ _ => none)
  (fun _ _ _ _ _ _ => none)
  (fun _ _ _ _ _ _ _ => none)
  (fun z _ => z)
  (fun a _ f => f a)
  (fun _ _ => none)
  (fun _ _ _ _ _ _ _ => none)
  (fun _ _ _ _ => none)
  (fun _ _ _ _ => none)
  (fun _ _ => none)
  (fun _ _ _ _ _ => none)
  ⟨⟩ (fun _ _ _ _ => ⟨⟩) v
noncomputable def V.AIS (v : V) : (Option V) -> (Nat -> Nat -> Nat -> Nat -> Nat -> Option V) -> (Nat -> Nat -> Nat -> Nat -> Option V) -> (Nat -> Nat -> Nat -> Nat -> Nat -> Option V) -> Option V :=
 V.rec (motive_1 := fun _ => (Option V) -> (Nat -> Nat -> Nat -> Nat -> Nat -> Option V) -> (Nat -> Nat -> Nat -> Nat -> Option V) -> (Nat -> Nat -> Nat -> Nat -> Nat -> Option V) -> Option V) (motive_2 := fun _ => PUnit)
  (fun _ _ _ _ => none)
  (fun _ _ _ _ _ _ _ => none)
  (fun _ _ _ _ _ => none)
  (fun _ _ _ _ _ _ => none)
  (fun _ _ _ _ => none)
  (fun _ _ _ _ _ _ => none)
  (fun _ _ _ _ _ _ => none)
  (fun z _ _ _ => z)
  (fun a b c d e _ f _ _ => f a b c d e)
  (fun a b c d _ _ g _ => g a b c d)
  (fun a b c d e _ _ _ h => h a b c d e)
  (fun _ _ _ _ => none)
  (fun _ _ _ _ _ => none)
  (fun _ _ _ _ => none)
  (fun _ _ _ _ _ _ _ _ _ => none)
  (fun _ _ _ _ _ _ => none)
  (fun _ _ _ _ _ _ => none)
  (fun _ _ _ _ => none)
  (fun _ _ _ _ _ _ _ => none)
  ⟨⟩ (fun _ _ _ _ => ⟨⟩) v
noncomputable def BP (v : V) : List V :=
 V.rec (motive_1 := fun _ => List V) (motive_2 := fun _ => PUnit)
  ([v])
  (fun _ _ _ => [v])
  (fun _ => [v])
  (fun _ _ => [v])
  ([v])
  (fun _ _ => [v])
  (fun _ _ => [v])
  ([v])
  (fun _ _ _ _ _ => [v])
  (fun _ _ _ _ => [v])
  (fun _ _ _ _ _ => [v])
  ([v])
  (fun _ => [v])
  ([v])
  (fun _ _ _ _ _ => [v])
  (fun a _ => a)
  (fun _ _ => [v])
  ([v])
  (fun _ _ _ => [v])
  ⟨⟩ (fun _ _ _ _ => ⟨⟩) v
noncomputable def isStr (v : V) : Bool :=
 V.rec (motive_1 := fun _ => Bool) (motive_2 := fun _ => PUnit)
  (false)
  (fun _ _ _ => false)
  (fun _ => false)
  (fun _ _ => true)
  (false)
  (fun _ _ => false)
  (fun _ _ => false)
  (false)
  (fun _ _ _ _ _ => false)
  (fun _ _ _ _ => false)
  (fun _ _ _ _ _ => false)
  (false)
  (fun _ => false)
  (false)
  (fun _ _ _ _ _ => false)
  (fun _ _ => false)
  (fun _ _ => false)
  (false)
  (fun _ _ _ => false)
  ⟨⟩ (fun _ _ _ _ => ⟨⟩) v
noncomputable def lenV (v : V) : Option V :=
 V.rec (motive_1 := fun _ => Option V) (motive_2 := fun _ => PUnit)
  (none)
  (fun _ _ _ => none)
  (fun _ => none)
  (fun _ _ => none)
  (none)
  (fun _ _ => none)
  (fun _ _ => none)
  (some (.int .i64 (.ofNat 0) 0))
  (fun _ _ c _ _ => some (.int .i64 (.ofNat c) 0))
  (fun _ _ c _ => some (.int .i64 (.ofNat c) 0))
  (fun _ _ c _ _ => some (.int .i64 (.ofNat c) 0))
  (none)
  (fun _ => none)
  (none)
  (fun _ _ _ _ _ => none)
  (fun _ _ => none)
  (fun _ _ => none)
  (none)
  (fun _ _ _ => none)
  ⟨⟩ (fun _ _ _ _ => ⟨⟩) v
noncomputable def BF (v : V) : Option V :=
 V.rec (motive_1 := fun _ => Option V) (motive_2 := fun _ => PUnit)
  (none)
  (fun _ _ _ => none)
  (fun _ => none)
  (fun _ _ => none)
  (none)
  (fun a b => some (.ptr a b))
  (fun a b => some (.gptr a b))
  (none)
  (fun _ _ _ _ _ => none)
  (fun _ _ _ _ => none)
  (fun _ _ _ _ _ => none)
  (none)
  (fun _ => none)
  (none)
  (fun a b c _ _ => some (.fn a b c))
  (fun _ _ => none)
  (fun _ _ => none)
  (none)
  (fun _ _ _ => none)
  ⟨⟩ (fun _ _ _ _ => ⟨⟩) v
noncomputable def JF (n : Int) : (Int -> Option V) -> Option V := fun f => f n
noncomputable def CW (n : Nat) : (Nat -> Option V) -> Option V :=
 Nat.rec (motive := fun _ => (Nat -> Option V) -> Option V) (fun f => f 0) (fun k _ f => f (Nat.succ k)) n
noncomputable def DK (n : Nat) : (Nat -> Prop) -> Prop :=
 Nat.rec (motive := fun _ => (Nat -> Prop) -> Prop) (fun f => f 0) (fun k _ f => f (Nat.succ k)) n
noncomputable def AQp (k : IntKind) : Nat -> Bool :=
 IntKind.rec (motive := fun _ => Nat -> Bool) (fun m => Nat.blt m 128) (fun m => Nat.blt m 32768) (fun m => Nat.blt m 2147483648) (fun m => Nat.blt m 9223372036854775808)
  (fun m => Nat.blt m 256) (fun m => Nat.blt m 65536) (fun m => Nat.blt m 4294967296) (fun m => Nat.blt m 18446744073709551616) k
noncomputable def AOd (k : IntKind) : Nat -> Bool :=
 IntKind.rec (motive := fun _ => Nat -> Bool) (fun m => Nat.blt m 128) (fun m => Nat.blt m 32768) (fun m => Nat.blt m 2147483648) (fun m => Nat.blt m 9223372036854775808)
  (fun _ => false) (fun _ => false) (fun _ => false) (fun _ => false) k
noncomputable def inr (k : IntKind) (n : Int) : Bool := Int.rec (motive := fun _ => IntKind -> Bool) (fun m k => AQp k m) (fun m k => AOd k m) n k
noncomputable def QD (k : IntKind) (n : Int) : Int := Bool.rec (k.wrap n) n (inr k n)
noncomputable def AM5 (k : IntKind) (n : Int) : Option V := JF (QD k n) fun m => some (.int k m 0)
noncomputable def mkI (k : IntKind) (n : Int) (s : Nat) : Option V :=
 Nat.rec (motive := fun _ => IntKind -> Int -> Option V) AM5 (fun _ _ k n => some (.int k (k.wrap n) 1)) s k n
noncomputable def mkN (k : IntKind) (n : Int) (s : Nat) : Option V :=
 Nat.rec (motive := fun _ => IntKind -> Int -> Option V) (fun k n => JF n fun m => some (.int k m 0)) (fun _ _ k n => some (.int k n 1)) s k n
noncomputable def AK1 (a : Nat) (b : Int) : Int := Int.rec (motive := fun _ => Nat -> Int) (fun n m => .ofNat (Nat.add m n)) (fun n m => Int.subNatNat m (Nat.succ n)) b a
noncomputable def ALD (a : Nat) (b : Int) : Int := Int.rec (motive := fun _ => Nat -> Int) (fun n m => Int.subNatNat n (Nat.succ m)) (fun n m => .negSucc (Nat.succ (Nat.add m n))) b a
noncomputable def wB (a b : Int) : Int := Int.rec (motive := fun _ => Int -> Int) AK1 ALD a b
noncomputable def ile (a b : Int) : Bool := Int.rec (motive := fun _ => Int -> Bool) (fun m b => Int.rec (motive := fun _ => Nat -> Bool) (fun n m => Nat.ble m n) (fun _ _ => false) b m)
 (fun m b => Int.rec (motive := fun _ => Nat -> Bool) (fun _ _ => true) (fun n m => Nat.ble n m) b m) a b
noncomputable def ilt (a b : Int) : Bool := Int.rec (motive := fun _ => Int -> Bool) (fun m b => Int.rec (motive := fun _ => Nat -> Bool) (fun n m => Nat.blt m n) (fun _ _ => false) b m)
 (fun m b => Int.rec (motive := fun _ => Nat -> Bool) (fun _ _ => true) (fun n m => Nat.blt n m) b m) a b
noncomputable def ieq (a b : Int) : Bool := Int.rec (motive := fun _ => Int -> Bool) (fun m b => Int.rec (motive := fun _ => Nat -> Bool) (fun n m => Nat.beq m n) (fun _ _ => false) b m)
 (fun m b => Int.rec (motive := fun _ => Nat -> Bool) (fun _ _ => false) (fun n m => Nat.beq n m) b m) a b
noncomputable def kno (a : IntKind) : Nat := IntKind.rec 0 1 2 3 4 5 6 7 a
noncomputable def keq (a b : IntKind) : Bool := Nat.beq (kno a) (kno b)
noncomputable def Ue (b : Bool) : Bool := Bool.rec true false b
noncomputable def band (a b : Bool) : Bool := Bool.rec (motive := fun _ => Bool -> Bool) (fun _ => false) (fun b => b) a b
noncomputable def AH3 (a b : Bool) : Bool := Bool.rec (motive := fun _ => Bool -> Bool) Ue (fun b => b) a b
noncomputable def mkB (b : Bool) : Option V := Bool.rec (some (.bool false)) (some (.bool true)) b
noncomputable def Aq (b : Bool) : Option V -> Option V := Bool.rec (motive := fun _ => Option V -> Option V) (fun _ => none) (fun o => o) b
noncomputable def mF (b : Bool) (x y : Option V) : Option V := Bool.rec (motive := fun _ => Option V -> Option V -> Option V) (fun _ y => y) (fun x _ => x) b x y
noncomputable def AFT (code i : Nat) : Nat := Nat.mod (Nat.div code (Nat.pow 256 i)) 256
noncomputable def AGY (code l h : Nat) : Nat := Nat.mod (Nat.div code (Nat.pow 256 l)) (Nat.pow 256 (Nat.sub h l))
noncomputable def AMw (l1 c1 c2 : Nat) : Nat := Nat.add c1 (Nat.mul (Nat.pow 256 l1) c2)
noncomputable def AM3 (f : Nat) : Nat -> Nat -> Nat -> Nat -> Bool :=
 Nat.rec (motive := fun _ => Nat -> Nat -> Nat -> Nat -> Bool) (fun _ _ _ _ => false)
  (fun _ g l1 c1 l2 c2 => Nat.rec (motive := fun _ => Bool) false (fun l2' _ => Nat.rec (motive := fun _ => Bool) true (fun l1' _ =>
   Bool.rec (Nat.blt (Nat.mod c1 256) (Nat.mod c2 256)) (g l1' (Nat.div c1 256) l2' (Nat.div c2 256)) (Nat.beq (Nat.mod c1 256) (Nat.mod c2 256))) l1) l2) f
noncomputable def slt (l1 c1 l2 c2 : Nat) : Bool := AM3 (Nat.succ l2) l1 c1 l2 c2
noncomputable def nth {α : Type} (l : List α) : Nat -> Option α :=
 List.rec (motive := fun _ => Nat -> Option α) (fun _ => none) (fun x _ g i => Nat.rec (motive := fun _ => Option α) (some x) (fun i _ => g i) i) l
noncomputable def Yc {α : Type} (x : α) (l : List α) : Nat -> List α :=
 List.rec (motive := fun _ => Nat -> List α) (fun _ => []) (fun y ys g i => Nat.rec (motive := fun _ => List α) (x :: ys) (fun i _ => y :: g i) i) l
noncomputable def len {α : Type} (l : List α) : Nat := List.rec (motive := fun _ => Nat) 0 (fun _ _ n => Nat.succ n) l
noncomputable def cat {α : Type} (a b : List α) : List α := List.rec (motive := fun _ => List α -> List α) (fun b => b) (fun x _ g b => x :: g b) a b
noncomputable def TG {α : Type} (n : Nat) : List α -> List α :=
 Nat.rec (motive := fun _ => List α -> List α) (fun _ => []) (fun _ g l => List.rec (motive := fun _ => List α) [] (fun x xs _ => x :: g xs) l) n
noncomputable def YC {α : Type} (n : Nat) : List α -> List α :=
 Nat.rec (motive := fun _ => List α -> List α) (fun l => l) (fun _ g l => List.rec (motive := fun _ => List α) [] (fun _ xs _ => g xs) l) n
noncomputable def Q8 (l : List X) : RS -> List V := List.rec (motive := fun _ => RS -> List V) (fun _ => []) (fun x _ g R => x.ev R :: g R) l
noncomputable def ABh (new : List V) (i : Nat) (l : List V) : List V := cat (TG i l) (cat new (YC (Nat.add i (len new)) l))
abbrev LV := List V
noncomputable def AK7 (o : Option V) (f : V -> Option V) : Option V := Option.rec (motive := fun _ => (V -> Option V) -> Option V) (fun _ => none) (fun v f => f v) o f
noncomputable def Ll (o : Option LV) (f : LV -> Option V) : Option V := Option.rec (motive := fun _ => (LV -> Option V) -> Option V) (fun _ => none) (fun v f => f v) o f
noncomputable def FM {α : Type} (o : Option α) (f : α -> Prop) : Prop := Option.rec (motive := fun _ => (α -> Prop) -> Prop) (fun _ => False) (fun v f => f v) o f
noncomputable def AU (o : Option V) (f : V -> Prop) : Prop := Option.rec (motive := fun _ => (V -> Prop) -> Prop) (fun _ => False) (fun v f => f v) o f
noncomputable def BK {α β : Type} (o : Option α) (f : α -> Option β) : Option β := Option.rec (motive := fun _ => (α -> Option β) -> Option β) (fun _ => none) (fun v f => f v) o f
noncomputable def ldC (esz off n : Nat) (L : LV) : Option LV :=
  Bool.rec (motive := fun _ => Option LV)
      (Bool.rec none (some (TG n (YC (Nat.mod off esz) L))) (Nat.ble (Nat.add (Nat.mod off esz) n) esz))
      (some L) (band (Nat.beq n esz) (Nat.beq (Nat.mod off esz) 0))
noncomputable def ldB (esz cnt : Nat) (c : T LV) (off n : Nat) : Option LV :=
 BK (Bool.rec none (T.get c (Nat.div off esz)) (Nat.blt (Nat.div off esz) cnt)) (ldC esz off n)
noncomputable def OL.ld (b : OL) : Nat -> Nat -> Option LV :=
 OL.rec (motive := fun _ => Nat -> Nat -> Option LV) ldB (fun _ _ _ _ => none) (fun _ _ => none) b
noncomputable def ZU (H : Heap) (id off n : Nat) : Option LV := Option.rec (motive := fun _ => Nat -> Nat -> Option LV) (fun _ _ => none) OL.ld (T.get H id) off n
noncomputable def lY (v : V) : (AP) -> (Heap) -> (Nat) -> Option LV :=
 V.rec (motive_1 := fun _ => (AP) -> (Heap) -> (Nat) -> Option LV) (motive_2 := fun _ => PUnit)
  (fun _ _ _ => none)
  (fun _ _ _ _ _ _ => none)
  (fun _ _ _ _ => none)
  (fun _ _ _ _ _ => none)
  (fun _ _ _ => none)
  (fun a b _ H n => ZU H a b n)
  (fun a b G _ n => G a b n)
  (fun _ _ _ => none)
  (fun _ _ _ _ _ _ _ _ => none)
  (fun _ _ _ _ _ _ _ => none)
  (fun _ _ _ _ _ _ _ _ => none)
  (fun _ _ _ => none)
  (fun _ _ _ _ => none)
  (fun _ _ _ => none)
  (fun _ _ _ _ _ _ _ _ => none)
  (fun _ _ _ _ _ => none)
  (fun _ _ _ _ _ => none)
  (fun _ _ _ => none)
  (fun _ _ _ _ _ _ => none)
  ⟨⟩ (fun _ _ _ _ => ⟨⟩) v
noncomputable def vY (new : LV) (esz cnt : Nat) (c : T LV) (off n : Nat) (L : LV) : Option OL :=
  Bool.rec (motive := fun _ => Option OL)
      (Bool.rec none (some (.arr esz cnt (T.set c (Nat.div off esz) (ABh new (Nat.mod off esz) L)))) (Nat.ble (Nat.add (Nat.mod off esz) n) esz))
      (some (.arr esz cnt (T.set c (Nat.div off esz) new))) (band (Nat.beq n esz) (Nat.beq (Nat.mod off esz) 0))
noncomputable def stB (esz cnt : Nat) (c : T LV) (off n : Nat) (new : LV) : Option OL :=
 BK (Bool.rec none (T.get c (Nat.div off esz)) (Nat.blt (Nat.div off esz) cnt)) (vY new esz cnt c off n)
noncomputable def OL.st (b : OL) : Nat -> Nat -> LV -> Option OL :=
 OL.rec (motive := fun _ => Nat -> Nat -> LV -> Option OL) stB (fun _ _ _ _ _ => none) (fun _ _ _ => none) b
noncomputable def stH (H : Heap) (id off n : Nat) (new : LV) : Option Heap :=
 BK (Option.rec (motive := fun _ => Nat -> Nat -> LV -> Option OL) (fun _ _ _ => none) OL.st (T.get H id) off n new) fun b => some (T.set H id b)
noncomputable def stP (v : V) : (Heap) -> (Nat) -> (LV) -> Option Heap :=
 V.rec (motive_1 := fun _ => (Heap) -> (Nat) -> (LV) -> Option Heap) (motive_2 := fun _ => PUnit)
  (fun _ _ _ => none)
  (fun _ _ _ _ _ _ => none)
  (fun _ _ _ _ => none)
  (fun _ _ _ _ _ => none)
  (fun _ _ _ => none)
  (fun a b H n new => stH H a b n new)
  (fun _ _ _ _ _ => none)
  (fun _ _ _ => none)
  (fun _ _ _ _ _ _ _ _ => none)
  (fun _ _ _ _ _ _ _ => none)
  (fun _ _ _ _ _ _ _ _ => none)
  (fun _ _ _ => none)
  (fun _ _ _ _ => none)
  (fun _ _ _ => none)
  (fun _ _ _ _ _ _ _ _ => none)
  (fun _ _ _ _ _ => none)
  (fun _ _ _ _ _ => none)
  (fun _ _ _ => none)
  (fun _ _ _ _ _ _ => none)
  ⟨⟩ (fun _ _ _ _ => ⟨⟩) v
noncomputable def AGK (v : V) : (IntKind) -> (Int) -> (Nat) -> Option Bool :=
 V.rec (motive_1 := fun _ => (IntKind) -> (Int) -> (Nat) -> Option Bool) (motive_2 := fun _ => PUnit)
  (fun _ _ _ => none)
  (fun a b c k n s => Bool.rec (motive := fun _ => Option Bool) none (some (ieq n b)) (band (keq k a) (Nat.beq (Nat.add s c) 0)))
  (fun _ _ _ _ => none)
  (fun _ _ _ _ _ => none)
  (fun _ _ _ => none)
  (fun _ _ _ _ _ => none)
  (fun _ _ _ _ _ => none)
  (fun _ _ _ => none)
  (fun _ _ _ _ _ _ _ _ => none)
  (fun _ _ _ _ _ _ _ => none)
  (fun _ _ _ _ _ _ _ _ => none)
  (fun _ _ _ => none)
  (fun _ _ _ _ => none)
  (fun _ _ _ => none)
  (fun _ _ _ _ _ _ _ _ => none)
  (fun _ _ _ _ _ => none)
  (fun _ _ _ _ _ => none)
  (fun _ _ _ => none)
  (fun _ _ _ _ _ _ => none)
  ⟨⟩ (fun _ _ _ _ => ⟨⟩) v
noncomputable def ADU (v : V) : (Bool) -> Option Bool :=
 V.rec (motive_1 := fun _ => (Bool) -> Option Bool) (motive_2 := fun _ => PUnit)
  (fun _ => none)
  (fun _ _ _ _ => none)
  (fun a x => some (AH3 x a))
  (fun _ _ _ => none)
  (fun _ => none)
  (fun _ _ _ => none)
  (fun _ _ _ => none)
  (fun _ => none)
  (fun _ _ _ _ _ _ => none)
  (fun _ _ _ _ _ => none)
  (fun _ _ _ _ _ _ => none)
  (fun _ => none)
  (fun _ _ => none)
  (fun _ => none)
  (fun _ _ _ _ _ _ => none)
  (fun _ _ _ => none)
  (fun _ _ _ => none)
  (fun _ => none)
  (fun _ _ _ _ => none)
  ⟨⟩ (fun _ _ _ _ => ⟨⟩) v
noncomputable def eqStr (v : V) : (Nat) -> (Nat) -> Option Bool :=
 V.rec (motive_1 := fun _ => (Nat) -> (Nat) -> Option Bool) (motive_2 := fun _ => PUnit)
  (fun _ _ => none)
  (fun _ _ _ _ _ => none)
  (fun _ _ _ => none)
  (fun a b l d => some (band (Nat.beq l a) (Nat.beq d b)))
  (fun _ _ => none)
  (fun _ _ _ _ => none)
  (fun _ _ _ _ => none)
  (fun _ _ => none)
  (fun _ _ _ _ _ _ _ => none)
  (fun _ _ _ _ _ _ => none)
  (fun _ _ _ _ _ _ _ => none)
  (fun _ _ => none)
  (fun _ _ _ => none)
  (fun _ _ => none)
  (fun _ _ _ _ _ _ _ => none)
  (fun _ _ _ _ => none)
  (fun _ _ _ _ => none)
  (fun _ _ => none)
  (fun _ _ _ _ _ => none)
  ⟨⟩ (fun _ _ _ _ => ⟨⟩) v
noncomputable def AFt (v : V) : Option Bool :=
 V.rec (motive_1 := fun _ => Option Bool) (motive_2 := fun _ => PUnit)
  (none)
  (fun _ _ _ => none)
  (fun _ => none)
  (fun _ _ => none)
  (some true)
  (fun _ _ => some false)
  (fun _ _ => some false)
  (none)
  (fun _ _ _ _ _ => none)
  (fun _ _ _ _ => none)
  (fun _ _ _ _ _ => none)
  (none)
  (fun _ => none)
  (none)
  (fun _ _ _ _ _ => none)
  (fun _ _ => none)
  (fun _ _ => none)
  (none)
  (fun _ _ _ => none)
  ⟨⟩ (fun _ _ _ _ => ⟨⟩) v
noncomputable def AKs (v : V) : (Nat) -> (Nat) -> Option Bool :=
 V.rec (motive_1 := fun _ => (Nat) -> (Nat) -> Option Bool) (motive_2 := fun _ => PUnit)
  (fun _ _ => none)
  (fun _ _ _ _ _ => none)
  (fun _ _ _ => none)
  (fun _ _ _ _ => none)
  (fun _ _ => some false)
  (fun a b i o => Bool.rec none (some (Nat.beq o b)) (Nat.beq i a))
  (fun _ _ _ _ => none)
  (fun _ _ => none)
  (fun _ _ _ _ _ _ _ => none)
  (fun _ _ _ _ _ _ => none)
  (fun _ _ _ _ _ _ _ => none)
  (fun _ _ => none)
  (fun _ _ _ => none)
  (fun _ _ => none)
  (fun _ _ _ _ _ _ _ => none)
  (fun _ _ _ _ => none)
  (fun _ _ _ _ => none)
  (fun _ _ => none)
  (fun _ _ _ _ _ => none)
  ⟨⟩ (fun _ _ _ _ => ⟨⟩) v
noncomputable def AH7 (v : V) : Option Bool :=
 V.rec (motive_1 := fun _ => Option Bool) (motive_2 := fun _ => PUnit)
  (none)
  (fun _ _ _ => none)
  (fun _ => none)
  (fun _ _ => none)
  (some false)
  (fun _ _ => none)
  (fun _ _ => none)
  (none)
  (fun _ _ _ _ _ => none)
  (fun _ _ _ _ => none)
  (fun _ _ _ _ _ => none)
  (none)
  (fun _ => none)
  (none)
  (fun _ _ _ _ _ => none)
  (fun _ _ => none)
  (fun _ _ => none)
  (none)
  (fun _ _ _ => none)
  ⟨⟩ (fun _ _ _ _ => ⟨⟩) v
noncomputable def ADO (v : V) : (V) -> Option Bool :=
 V.rec (motive_1 := fun _ => (V) -> Option Bool) (motive_2 := fun _ => PUnit)
  (fun _ => none)
  (fun a b c y => AGK y a b c)
  (fun _ _ => none)
  (fun _ _ _ => none)
  (fun _ => none)
  (fun _ _ _ => none)
  (fun _ _ _ => none)
  (fun _ => none)
  (fun _ _ _ _ _ _ => none)
  (fun _ _ _ _ _ => none)
  (fun _ _ _ _ _ _ => none)
  (fun _ => none)
  (fun _ _ => none)
  (fun _ => none)
  (fun _ _ _ _ _ _ => none)
  (fun _ _ _ => none)
  (fun _ _ _ => none)
  (fun _ => none)
  (fun _ _ _ _ => none)
  ⟨⟩ (fun _ _ _ _ => ⟨⟩) v
noncomputable def ADJ (v : V) : (V) -> Option Bool :=
 V.rec (motive_1 := fun _ => (V) -> Option Bool) (motive_2 := fun _ => PUnit)
  (fun _ => none)
  (fun _ _ _ _ => none)
  (fun _ _ => none)
  (fun a b y => eqStr y a b)
  (fun _ => none)
  (fun _ _ _ => none)
  (fun _ _ _ => none)
  (fun _ => none)
  (fun _ _ _ _ _ _ => none)
  (fun _ _ _ _ _ => none)
  (fun _ _ _ _ _ _ => none)
  (fun _ => none)
  (fun _ _ => none)
  (fun _ => none)
  (fun _ _ _ _ _ _ => none)
  (fun _ _ _ => none)
  (fun _ _ _ => none)
  (fun _ => none)
  (fun _ _ _ _ => none)
  ⟨⟩ (fun _ _ _ _ => ⟨⟩) v
noncomputable def uZ (v : V) : (V) -> Option Bool :=
 V.rec (motive_1 := fun _ => (V) -> Option Bool) (motive_2 := fun _ => PUnit)
  (fun _ => none)
  (fun _ _ _ _ => none)
  (fun a y => ADU y a)
  (fun _ _ _ => none)
  (fun _ => none)
  (fun _ _ _ => none)
  (fun _ _ _ => none)
  (fun _ => none)
  (fun _ _ _ _ _ _ => none)
  (fun _ _ _ _ _ => none)
  (fun _ _ _ _ _ _ => none)
  (fun _ => none)
  (fun _ _ => none)
  (fun _ => none)
  (fun _ _ _ _ _ _ => none)
  (fun _ _ _ => none)
  (fun _ _ _ => none)
  (fun _ => none)
  (fun _ _ _ _ => none)
  ⟨⟩ (fun _ _ _ _ => ⟨⟩) v
noncomputable def AH0 (v : V) : (V) -> Option Bool :=
 V.rec (motive_1 := fun _ => (V) -> Option Bool) (motive_2 := fun _ => PUnit)
  (fun _ => none)
  (fun _ _ _ _ => none)
  (fun _ _ => none)
  (fun _ _ _ => none)
  (fun y => AFt y)
  (fun a b y => AKs y a b)
  (fun _ _ y => AH7 y)
  (fun _ => none)
  (fun _ _ _ _ _ _ => none)
  (fun _ _ _ _ _ => none)
  (fun _ _ _ _ _ _ => none)
  (fun _ => none)
  (fun _ _ => none)
  (fun _ => none)
  (fun _ _ _ _ _ _ => none)
  (fun _ _ _ => none)
  (fun _ _ _ => none)
  (fun _ => none)
  (fun _ _ _ _ => none)
  ⟨⟩ (fun _ _ _ _ => ⟨⟩) v
noncomputable def AHN (v : V) : Option Bool :=
 V.rec (motive_1 := fun _ => Option Bool) (motive_2 := fun _ => PUnit)
  (none)
  (fun _ _ _ => none)
  (fun _ => none)
  (fun _ _ => none)
  (none)
  (fun _ _ => none)
  (fun _ _ => none)
  (some true)
  (fun _ _ _ _ _ => some false)
  (fun _ _ _ _ => some false)
  (fun _ _ _ _ _ => some false)
  (none)
  (fun _ => none)
  (none)
  (fun _ _ _ _ _ => none)
  (fun _ _ => none)
  (fun _ _ => none)
  (none)
  (fun _ _ _ => none)
  ⟨⟩ (fun _ _ _ _ => ⟨⟩) v
noncomputable def Yi (v : V) : Option Bool :=
 V.rec (motive_1 := fun _ => Option Bool) (motive_2 := fun _ => PUnit)
  (none)
  (fun _ _ _ => none)
  (fun _ => none)
  (fun _ _ => none)
  (none)
  (fun _ _ => none)
  (fun _ _ => none)
  (some false)
  (fun _ _ _ _ _ => none)
  (fun _ _ _ _ => none)
  (fun _ _ _ _ _ => none)
  (none)
  (fun _ => none)
  (none)
  (fun _ _ _ _ _ => none)
  (fun _ _ => none)
  (fun _ _ => none)
  (none)
  (fun _ _ _ => none)
  ⟨⟩ (fun _ _ _ _ => ⟨⟩) v
noncomputable def AFp (v : V) : Option Bool :=
 V.rec (motive_1 := fun _ => Option Bool) (motive_2 := fun _ => PUnit)
  (none)
  (fun _ _ _ => none)
  (fun _ => none)
  (fun _ _ => none)
  (none)
  (fun _ _ => none)
  (fun _ _ => none)
  (none)
  (fun _ _ _ _ _ => none)
  (fun _ _ _ _ => none)
  (fun _ _ _ _ _ => none)
  (none)
  (fun _ => none)
  (some true)
  (fun _ _ _ _ _ => some false)
  (fun _ _ => none)
  (fun _ _ => none)
  (none)
  (fun _ _ _ => none)
  ⟨⟩ (fun _ _ _ _ => ⟨⟩) v
noncomputable def AEj (v : V) : Option Bool :=
 V.rec (motive_1 := fun _ => Option Bool) (motive_2 := fun _ => PUnit)
  (none)
  (fun _ _ _ => none)
  (fun _ => none)
  (fun _ _ => none)
  (none)
  (fun _ _ => none)
  (fun _ _ => none)
  (none)
  (fun _ _ _ _ _ => none)
  (fun _ _ _ _ => none)
  (fun _ _ _ _ _ => none)
  (none)
  (fun _ => none)
  (some false)
  (fun _ _ _ _ _ => none)
  (fun _ _ => none)
  (fun _ _ => none)
  (none)
  (fun _ _ _ => none)
  ⟨⟩ (fun _ _ _ _ => ⟨⟩) v
noncomputable def AHh (v : V) : Option Bool :=
 V.rec (motive_1 := fun _ => Option Bool) (motive_2 := fun _ => PUnit)
  (none)
  (fun _ _ _ => none)
  (fun _ => none)
  (fun _ _ => none)
  (none)
  (fun _ _ => none)
  (fun _ _ => none)
  (none)
  (fun _ _ _ _ _ => none)
  (fun _ _ _ _ => none)
  (fun _ _ _ _ _ => none)
  (some true)
  (fun _ => some false)
  (none)
  (fun _ _ _ _ _ => none)
  (fun _ _ => none)
  (fun _ _ => none)
  (none)
  (fun _ _ _ => none)
  ⟨⟩ (fun _ _ _ _ => ⟨⟩) v
noncomputable def ADm (v : V) : Option Bool :=
 V.rec (motive_1 := fun _ => Option Bool) (motive_2 := fun _ => PUnit)
  (none)
  (fun _ _ _ => none)
  (fun _ => none)
  (fun _ _ => none)
  (none)
  (fun _ _ => none)
  (fun _ _ => none)
  (none)
  (fun _ _ _ _ _ => none)
  (fun _ _ _ _ => none)
  (fun _ _ _ _ _ => none)
  (some false)
  (fun _ => none)
  (none)
  (fun _ _ _ _ _ => none)
  (fun _ _ => none)
  (fun _ _ => none)
  (none)
  (fun _ _ _ => none)
  ⟨⟩ (fun _ _ _ _ => ⟨⟩) v
noncomputable def kSl (v : V) : (V) -> Option Bool :=
 V.rec (motive_1 := fun _ => (V) -> Option Bool) (motive_2 := fun _ => PUnit)
  (fun _ => none)
  (fun _ _ _ _ => none)
  (fun _ _ => none)
  (fun _ _ _ => none)
  (fun _ => none)
  (fun _ _ _ => none)
  (fun _ _ _ => none)
  (fun y => AHN y)
  (fun _ _ _ _ _ y => Yi y)
  (fun _ _ _ _ y => Yi y)
  (fun _ _ _ _ _ y => Yi y)
  (fun _ => none)
  (fun _ _ => none)
  (fun _ => none)
  (fun _ _ _ _ _ _ => none)
  (fun _ _ _ => none)
  (fun _ _ _ => none)
  (fun _ => none)
  (fun _ _ _ _ => none)
  ⟨⟩ (fun _ _ _ _ => ⟨⟩) v
noncomputable def kFn (v : V) : (V) -> Option Bool :=
 V.rec (motive_1 := fun _ => (V) -> Option Bool) (motive_2 := fun _ => PUnit)
  (fun _ => none)
  (fun _ _ _ _ => none)
  (fun _ _ => none)
  (fun _ _ _ => none)
  (fun _ => none)
  (fun _ _ _ => none)
  (fun _ _ _ => none)
  (fun _ => none)
  (fun _ _ _ _ _ _ => none)
  (fun _ _ _ _ _ => none)
  (fun _ _ _ _ _ _ => none)
  (fun _ => none)
  (fun _ _ => none)
  (fun y => AFp y)
  (fun _ _ _ _ _ y => AEj y)
  (fun _ _ _ => none)
  (fun _ _ _ => none)
  (fun _ => none)
  (fun _ _ _ _ => none)
  ⟨⟩ (fun _ _ _ _ => ⟨⟩) v
noncomputable def AMK (v : V) : (V) -> Option Bool :=
 V.rec (motive_1 := fun _ => (V) -> Option Bool) (motive_2 := fun _ => PUnit)
  (fun _ => none)
  (fun _ _ _ _ => none)
  (fun _ _ => none)
  (fun _ _ _ => none)
  (fun _ => none)
  (fun _ _ _ => none)
  (fun _ _ _ => none)
  (fun _ => none)
  (fun _ _ _ _ _ _ => none)
  (fun _ _ _ _ _ => none)
  (fun _ _ _ _ _ _ => none)
  (fun y => AHh y)
  (fun _ y => ADm y)
  (fun _ => none)
  (fun _ _ _ _ _ _ => none)
  (fun _ _ _ => none)
  (fun _ _ _ => none)
  (fun _ => none)
  (fun _ _ _ _ => none)
  ⟨⟩ (fun _ _ _ _ => ⟨⟩) v
noncomputable def Wj (o : Option Bool) (f : Bool -> Option Bool) : Option Bool := Option.rec (motive := fun _ => (Bool -> Option Bool) -> Option Bool) (fun _ => none) (fun v f => f v) o f
inductive CK where
 | int | str | bool | ptr
noncomputable def CK.eq (k : CK) : V -> V -> Option Bool := CK.rec (motive := fun _ => V -> V -> Option Bool) ADO ADJ uZ AH0 k
noncomputable def vS (ks : List CK) : List V -> List V -> Option Bool :=
 List.rec (motive := fun _ => List V -> List V -> Option Bool) (fun a b => List.rec (motive := fun _ => Option Bool) (List.rec (motive := fun _ => Option Bool) (some true) (fun _ _ _ => none) b) (fun _ _ _ => none) a)
  (fun k _ g a b => List.rec (motive := fun _ => Option Bool) none (fun x xs _ => List.rec (motive := fun _ => Option Bool) none (fun y ys _ => Wj (k.eq x y) fun r => Wj (g xs ys) fun r' => some (band r r')) b) a) ks
noncomputable def AKi (v : V) : (List CK) -> (LV) -> Option Bool :=
 V.rec (motive_1 := fun _ => (List CK) -> (LV) -> Option Bool) (motive_2 := fun _ => PUnit)
  (fun _ _ => none)
  (fun _ _ _ _ _ => none)
  (fun _ _ _ => none)
  (fun _ _ _ _ => none)
  (fun _ _ => none)
  (fun _ _ _ _ => none)
  (fun _ _ _ _ => none)
  (fun _ _ => none)
  (fun _ _ _ _ _ _ _ => none)
  (fun _ _ _ _ _ _ => none)
  (fun _ _ _ _ _ _ _ => none)
  (fun _ _ => none)
  (fun _ _ _ => none)
  (fun _ _ => none)
  (fun _ _ _ _ _ _ _ => none)
  (fun a _ ks l => vS ks l a)
  (fun _ _ _ _ => none)
  (fun _ _ => none)
  (fun _ _ _ _ _ => none)
  ⟨⟩ (fun _ _ _ _ => ⟨⟩) v
noncomputable def AL2 (v : V) : (List CK) -> (V) -> Option Bool :=
 V.rec (motive_1 := fun _ => (List CK) -> (V) -> Option Bool) (motive_2 := fun _ => PUnit)
  (fun _ _ => none)
  (fun _ _ _ _ _ => none)
  (fun _ _ _ => none)
  (fun _ _ _ _ => none)
  (fun _ _ => none)
  (fun _ _ _ _ => none)
  (fun _ _ _ _ => none)
  (fun _ _ => none)
  (fun _ _ _ _ _ _ _ => none)
  (fun _ _ _ _ _ _ => none)
  (fun _ _ _ _ _ _ _ => none)
  (fun _ _ => none)
  (fun _ _ _ => none)
  (fun _ _ => none)
  (fun _ _ _ _ _ _ _ => none)
  (fun a _ ks y => AKi y ks a)
  (fun _ _ _ _ => none)
  (fun _ _ => none)
  (fun _ _ _ _ _ => none)
  ⟨⟩ (fun _ _ _ _ => ⟨⟩) v
inductive EK where
 | one (k : CK) | agg (ks : List CK) | sl | fn | map
noncomputable def EK.eq (k : EK) : V -> V -> Option Bool := EK.rec (motive := fun _ => V -> V -> Option Bool) (fun k => k.eq) (fun ks x y => AL2 x ks y) kSl kFn AMK k
inductive B2 where
 | add | sub | mul | quo | rem | and | or | xor | andNot | shl | shr | lss | leq | gtr | geq
noncomputable def AFP (f : Int -> Int -> Bool) (x y : V) : Option V := x.FH fun k a s => y.FH fun k' b t => Aq (band (keq k k') (Nat.beq (Nat.add s t) 0)) (mkB (f a b))
noncomputable def zD (f : Nat -> Nat -> Nat -> Nat -> Bool) (x y : V) : Option V := x.Oq fun l c => y.Oq fun m d => mkB (f l c m d)
noncomputable def ari (f : Int -> Int -> Int) (x y : V) : Option V := x.FH fun k a s => y.FH fun k' b t => Aq (keq k k') (mkI k (f a b) (Nat.add s t))
noncomputable def dvs (f : Int -> Int -> Int) (x y : V) : Option V :=
 x.FH fun k a s => y.FH fun k' b t => Aq (band (keq k k') (band (Nat.beq t 0) (Ue (ieq b 0)))) (mkI k (f a b) s)
noncomputable def AL1 (x y : V) : Option V :=
 x.FH fun k a s => y.FH fun k' b t => Aq (band (keq k k') (band (Nat.beq t 0) (Ue (ieq b 0)))) (mkN k (Int.tmod a b) s)
noncomputable def AOs (x y : V) : Option V := x.Oq fun l c => y.Oq fun m d => Aq (Nat.blt (Nat.add l m) 9223372036854775808) (CW (Nat.add l m) fun n => CW (AMw l c d) fun e => some (.str n e))
noncomputable def ANJ (x y : V) : Option V := mF (isStr x) (AOs x y) (ari wB x y)
noncomputable def APC (x y : V) : Option V := ari (fun a b => wB a (Int.neg b)) x y
noncomputable def AQH (x y : V) : Option V := ari Int.mul x y
noncomputable def AHG (k : IntKind) (a b : Int) : Int := Int.rec (motive := fun _ => Int -> IntKind -> Int)
 (fun m b k => Int.rec (motive := fun _ => Nat -> IntKind -> Int) (fun n m k => QD k (.ofNat (Nat.land m n))) (fun n m k => bits .and k (.ofNat m) (.negSucc n)) b m k)
 (fun m b k => bits .and k (.negSucc m) b) a b k
noncomputable def AIR (x y : V) : Option V := x.FH fun k a s => y.FH fun k' b t => Aq (band (keq k k') (Nat.beq (Nat.add s t) 0)) (JF (AHG k a b) fun m => some (.int k m 0))
noncomputable def AGw (o : BinOp) (x y : V) : Option V := x.FH fun k a s => y.FH fun k' b t => Aq (band (keq k k') (Nat.beq (Nat.add s t) 0)) (JF (bits o k a b) fun m => some (.int k m 0))
noncomputable def ANq (a : Int) (n : Nat) : Int := Int.fdiv a (Int.ofNat (Nat.pow 2 n))
noncomputable def oO (k : IntKind) : Nat := IntKind.rec 8 16 32 64 8 16 32 64 k
noncomputable def ANj (x y : V) : Option V := x.FH fun k a s => y.FH fun _ b t => Aq (band (Ue (ilt b 0)) (Nat.beq (Nat.add s t) 0)) (JF (ANq a (Nat.min (Int.toNat b) (oO k))) fun m => some (.int k m 0))
noncomputable def AM0 (x y : V) : Option V := x.FH fun k a s => y.FH fun _ b t => Aq (band (Ue (ilt b 0)) (Nat.beq (Nat.add s t) 0)) (mkI k (Int.mul a (Int.ofNat (Nat.pow 2 (Nat.min (Int.toNat b) (oO k))))) 0)
noncomputable def ofB (o : Option Bool) : Option V := Option.rec none mkB o
noncomputable def Hz (k : EK) (neg : Bool) (x y : V) : Option V := ofB (Wj (k.eq x y) fun b => some (Bool.rec (motive := fun _ => Bool -> Bool) (fun b => b) Ue neg b))
noncomputable def AMD (x y : V) : Option V := mF (isStr x) (zD slt x y) (AFP ilt x y)
noncomputable def ANt (x y : V) : Option V := mF (isStr x) (zD (fun l c m d => Ue (slt m d l c)) x y) (AFP ile x y)
noncomputable def ANk (x y : V) : Option V := mF (isStr x) (zD (fun l c m d => slt m d l c) x y) (AFP (fun a b => ilt b a) x y)
noncomputable def AMJ (x y : V) : Option V := mF (isStr x) (zD (fun l c m d => Ue (slt l c m d)) x y) (AFP (fun a b => ile b a) x y)
noncomputable def B2.ev (o : B2) : V -> V -> Option V := B2.rec (motive := fun _ => V -> V -> Option V)
 ANJ APC AQH (dvs Int.tdiv) AL1 AIR (AGw .or) (AGw .xor) (AGw .andNot) AM0 ANj AMD ANt ANk AMJ o
end Go.Eng
namespace Go.Eng
inductive AN where
 | mv (x : X)
 | pick (c a b : X)
 | ld1 (x : X)
 | ldn (n : Nat) (x : X)
 | ADj (x : X)
 | bin (o : B2) (x y : X)
 | eq (k : EK) (neg : Bool) (x y : X)
 | not (x : X)
 | neg (x : X)
 | cvi (k : IntKind) (x : X)
 | APf (f : Nat) (first caps : List X)
 | AK2 (off : Nat) (x : X)
 | field1 (off : Nat) (x : X)
 | AHx (off n : Nat) (x : X)
 | AKz (esz : Nat) (x i : X)
 | AGV (n esz : Nat) (x i : X)
 | APg (x i : X)
 | AQa (n : Nat) (x i : X)
 | ext (x : X) (i : Nat)
 | APQ (x : X)
 | AQG (x : X)
 | ALd (x : X)
 | AQL (n : Nat)
 | look (c : CK) (ok : Bool) (zero : V) (m k : X)
 | build (zero : List V) (parts : List (Nat × Nat × X))
 | ALv (x : X) (lo hi : Option X)
 | slc (esz : Nat) (x : X) (lo hi mx : Option X)
 | AOh (n esz : Nat) (x : X) (lo hi : Option X)
 | AQE (x y : X)
 | AOc (x y : X)
 | cvS (x : X)
 | ADd (s c : X)
 | zD (x y : X)
inductive AA where
 | alloc (esz : Nat) (es : List (List V))
 | box (x : X)
 | sJ (esz cnt : Nat) (zero : List V) (parts : List (Nat × X))
 | jU (esz bytes : Nat) (zero : List V) (l c : X)
 | AEB
inductive AE where
 | asg (x : X)
 | st (n : Nat) (x v : X)
 | app (esz bytes : Nat) (x y : X)
 | copy (esz : Nat) (x y : X)
 | zA (c : CK) (m k v : X)
 | del (c : CK) (m k : X)
 | AMO (m : X)
 | call (f : Nat) (args : List X)
 | ABL (x : X) (args : List X)
 | defer (dp : P2) (x : X) (args : List X)
 | cvB (x : X)
inductive AO where
 | n (o : AN) | a (o : AA) | e (o : AE)
inductive Zn where
 | no | to (p : P2) | ps
inductive Gd where
 | no | on (x : X) (b : Bool)
inductive iY where
 | mk (d : Zn) (g : Gd) (o : AO)
noncomputable def AGP (n : Int) : (Nat -> Option V) -> Option V := Int.rec (motive := fun _ => (Nat -> Option V) -> Option V) (fun m f => f m) (fun _ _ => none) n
noncomputable def Ro (v : V) (f : Nat -> Option V) : Option V := v.FH fun _ n s => Aq (Nat.beq s 0) (AGP n f)
noncomputable def Uo (x : Option X) : RS -> Nat -> (Nat -> Option V) -> Option V :=
 Option.rec (motive := fun _ => RS -> Nat -> (Nat -> Option V) -> Option V) (fun _ d f => f d) (fun x R _ f => Ro (x.ev R) f) x
noncomputable def f3 (a b c : Nat) (f : Nat -> Nat -> Nat -> V) : Option V := CW a fun a => CW b fun b => CW c fun c => some (f a b c)
noncomputable def mg (R : RS) (lo hi mx : Option X) : Option V := Uo mx R 0 fun m => Uo hi R 0 fun h => Uo lo R 0 fun l => Aq (band (Nat.ble l h) (band (Nat.ble h m) (Nat.beq m 0))) (some .Ae)
noncomputable def xY (z : Nat) (R : RS) (lo hi mx : Option X) (id off ln cap esz : Nat) : Option V := Aq (Nat.beq z esz) (Uo mx R cap fun m => Uo hi R ln fun h => Uo lo R 0 fun l =>
 Aq (band (Nat.ble l h) (band (Nat.ble h m) (Nat.ble m cap))) (f3 (Nat.add off l) (Nat.sub h l) (Nat.sub m l) fun o d c => .sl id o d c esz))
noncomputable def jf (R : RS) (lo hi : Option X) (id off ln esz : Nat) : Option V := Uo hi R ln fun h => Uo lo R 0 fun l =>
 Aq (band (Nat.ble l h) (Nat.ble h ln)) (f3 (Nat.add off l) (Nat.sub h l) 0 fun o d _ => .Nr id o d esz)
noncomputable def lN (R : RS) (lo hi : Option X) (mx : X) (id off ln esz : Nat) : Option V := Ro (mx.ev R) fun m => Uo hi R 0 fun h => Uo lo R 0 fun l =>
 Aq (band (Nat.ble l h) (band (Nat.ble h m) (Nat.ble m ln))) (f3 (Nat.add off l) (Nat.sub h l) (Nat.sub m l) fun o d c => .sl id o d c esz)
noncomputable def iU (z : Nat) (R : RS) (lo hi mx : Option X) (id off ln esz : Nat) : Option V :=
 Aq (Nat.beq z esz) (Option.rec (motive := fun _ => Option V) (jf R lo hi id off ln esz) (fun mx => lN R lo hi mx id off ln esz) mx)
noncomputable def nC (z : Nat) (R : RS) (lo hi mx : Option X) (b off ln cap esz : Nat) : Option V := Uo hi R ln fun h => Uo lo R 0 fun l =>
 Option.rec (motive := fun _ => Option V) (Aq (band (Nat.ble l h) (Nat.ble h cap)) (f3 (Nat.add off (Nat.mul l z)) (Nat.sub h l) (Nat.sub cap l) fun o d c => .rsl b o d c esz)) (fun _ => none) mx
noncomputable def zM (z : Nat) (x : V) (R : RS) (lo hi mx : Option X) : Option V := x.AIS (mg R lo hi mx) (xY z R lo hi mx) (iU z R lo hi mx) (nC z R lo hi mx)
noncomputable def Rf (x : V) (R : RS) (lo hi : Option X) : Option V :=
 x.Oq fun ln c => Uo hi R ln fun h => Uo lo R 0 fun l => Aq (band (Nat.ble l h) (Nat.ble h ln)) (f3 (Nat.sub h l) (AGY c l h) 0 fun d c _ => .str d c)
noncomputable def BI (esz : Nat) (x i : V) : Option V := Ro i fun i => x.AIS none
 (fun id off ln _ e => Aq (band (Nat.beq e esz) (Nat.blt i ln)) (CW (Nat.mul (Nat.add off i) esz) fun o => some (.ptr id o)))
 (fun id off ln e => Aq (band (Nat.beq e esz) (Nat.blt i ln)) (CW (Nat.mul (Nat.add off i) esz) fun o => some (.ptr id o)))
 (fun b off ln _ _ => Aq (Nat.blt i ln) (CW (Nat.add off (Nat.mul i esz)) fun o => some (.gptr b o)))
noncomputable def AX (off : Nat) (x : V) : Option V := x.xq (fun id o => CW (Nat.add o off) fun o => some (.ptr id o)) (fun b o => CW (Nat.add o off) fun o => some (.gptr b o))
abbrev ME := List (V × V × Nat)
noncomputable def dD (c : CK) (k : V) (es : ME) : Nat -> Option (Option (Nat × V)) :=
 List.rec (motive := fun _ => Nat -> Option (Option (Nat × V))) (fun _ => some none)
  (fun e _ g i => BK (c.eq e.1 k) fun r => Bool.rec (g (Nat.succ i)) (some (some (i, e.2.1))) r) es
noncomputable def AO3 (b : OL) : (ME -> Nat -> Option V) -> Option V := OL.rec (motive := fun _ => (ME -> Nat -> Option V) -> Option V) (fun _ _ _ _ => none) (fun es c f => f es c) (fun _ => none) b
noncomputable def NR (H : Heap) (m : V) (f : ME -> Nat -> Option V) : Option V := m.ACU (f [] 0) fun id => Option.rec (motive := fun _ => (ME -> Nat -> Option V) -> Option V) (fun _ => none) AO3 (T.get H id) f
noncomputable def Zw (parts : List (Nat × Nat × X)) : RS -> List V -> List V :=
 List.rec (motive := fun _ => RS -> List V -> List V) (fun _ l => l) (fun p _ g R l => g R (ABh (BP (p.2.2.ev R)) p.1 l)) parts
noncomputable def Xm (v : V) : Bool :=
 V.rec (motive_1 := fun _ => Bool) (motive_2 := fun _ => PUnit)
  (false)
  (fun _ _ _ => true)
  (fun _ => true)
  (fun _ _ => true)
  (true)
  (fun _ _ => true)
  (fun _ _ => true)
  (true)
  (fun _ _ _ _ _ => true)
  (fun _ _ _ _ => true)
  (fun _ _ _ _ _ => true)
  (true)
  (fun _ => true)
  (true)
  (fun _ _ _ _ _ => true)
  (fun _ _ => true)
  (fun _ _ => false)
  (true)
  (fun _ _ _ => true)
  ⟨⟩ (fun _ _ _ _ => ⟨⟩) v
noncomputable def Qc (parts : List (Nat × Nat × X)) : RS -> Bool :=
 List.rec (motive := fun _ => RS -> Bool) (fun _ => true) (fun p _ g R => band (band (Xm (p.2.2.ev R)) (Nat.beq (len (BP (p.2.2.ev R))) p.2.1)) (g R)) parts
abbrev D5 := List LV
noncomputable def CY (H : Heap) (id esz : Nat) (n : Nat) : Nat -> Option D5 :=
 Nat.rec (motive := fun _ => Nat -> Option D5) (fun _ => some [])
  (fun _ g o => BK (ZU H id (Nat.mul o esz) esz) fun L => BK (g (Nat.succ o)) fun LS => some (L :: LS)) n
noncomputable def Z7 (G : AP) (b esz : Nat) (n : Nat) : Nat -> Option D5 :=
 Nat.rec (motive := fun _ => Nat -> Option D5) (fun _ => some [])
  (fun _ g o => BK (G b o esz) fun L => BK (g (Nat.add o esz)) fun LS => some (L :: LS)) n
noncomputable def Pm (n : Nat) : Nat -> D5 :=
 Nat.rec (motive := fun _ => Nat -> D5) (fun _ => []) (fun _ g c => [.int .u8 (.ofNat (Nat.mod c 256)) 0] :: g (Nat.div c 256)) n
noncomputable def elems (v : V) : (AP) -> (Heap) -> (Nat) -> Option D5 :=
 V.rec (motive_1 := fun _ => (AP) -> (Heap) -> (Nat) -> Option D5) (motive_2 := fun _ => PUnit)
  (fun _ _ _ => none)
  (fun _ _ _ _ _ _ => none)
  (fun _ _ _ _ => none)
  (fun a b _ _ z => Bool.rec (motive := fun _ => Option D5) none (some (Pm a b)) (Nat.beq 1 z))
  (fun _ _ _ => none)
  (fun _ _ _ _ _ => none)
  (fun _ _ _ _ _ => none)
  (fun _ _ _ => some [])
  (fun a b c _ e _ H z => Bool.rec (motive := fun _ => Option D5) none (CY H a z c b) (Nat.beq e z))
  (fun a b c d _ H z => Bool.rec (motive := fun _ => Option D5) none (CY H a z c b) (Nat.beq d z))
  (fun a b c _ _ G _ z => Z7 G a z c b)
  (fun _ _ _ => none)
  (fun _ _ _ _ => none)
  (fun _ _ _ => none)
  (fun _ _ _ _ _ _ _ _ => none)
  (fun _ _ _ _ _ => none)
  (fun _ _ _ _ _ => none)
  (fun _ _ _ => none)
  (fun _ _ _ _ _ _ => none)
  ⟨⟩ (fun _ _ _ _ => ⟨⟩) v
noncomputable def byteOf (v : V) : Option Nat :=
 V.rec (motive_1 := fun _ => Option Nat) (motive_2 := fun _ => PUnit)
  (none)
  (fun a b c => Int.rec (motive := fun _ => Nat -> Option Nat) (fun m t => Bool.rec none (some m) (band (Nat.beq (kno a) 4) (band (Nat.blt m 256) (Nat.beq t 0)))) (fun _ _ => none) b c)
  (fun _ => none)
  (fun _ _ => none)
  (none)
  (fun _ _ => none)
  (fun _ _ => none)
  (none)
  (fun _ _ _ _ _ => none)
  (fun _ _ _ _ => none)
  (fun _ _ _ _ _ => none)
  (none)
  (fun _ => none)
  (none)
  (fun _ _ _ _ _ => none)
  (fun _ _ => none)
  (fun _ _ => none)
  (none)
  (fun _ _ _ => none)
  ⟨⟩ (fun _ _ _ _ => ⟨⟩) v
noncomputable def jT (l : D5) : Option Nat :=
 List.rec (motive := fun _ => Option Nat) (some 0) (fun x _ g => BK (nth x 0) fun v => BK (byteOf v) fun m => BK g fun c => some (Nat.add m (Nat.mul 256 c))) l
noncomputable def Xc (b : Nat) (f : Nat) : Nat -> Nat -> Int :=
 Nat.rec (motive := fun _ => Nat -> Nat -> Int) (fun _ _ => .negSucc 0)
  (fun _ g c i => Bool.rec (g (Nat.div c 256) (Nat.succ i)) (.ofNat i) (Nat.beq (Nat.mod c 256) b)) f
abbrev bV := AP -> RS -> Heap -> Option V
noncomputable def eMv (x : X) : bV := fun _ R _ => some (x.ev R)
noncomputable def eNo (b : X) (R : RS) : Option V := some (b.ev R)
noncomputable def ADb (c a b : X) : bV := fun _ R _ => (c.ev R).bT fun t => mF t (some (a.ev R)) (some (b.ev R))
noncomputable def AJt (x : X) : bV := fun G R H => Ll (lY (x.ev R) G H 1) fun L => nth L 0
noncomputable def AIz (n : Nat) (x : X) : bV := fun G R H => Ll (lY (x.ev R) G H n) fun L => some (.agg L)
noncomputable def zu (x : X) : bV := fun _ R _ => BF (x.ev R)
noncomputable def AKL (o : B2) (x y : X) : bV := fun _ R _ => o.ev (x.ev R) (y.ev R)
noncomputable def eEq (k : EK) (neg : Bool) (x y : X) : bV := fun _ R _ => Hz k neg (x.ev R) (y.ev R)
noncomputable def AJA (x : X) : bV := fun _ R _ => (x.ev R).bT fun b => mkB (Ue b)
noncomputable def AJG (x : X) : bV := fun _ R _ => (x.ev R).FH fun k n s => mkI k (Int.neg n) s
noncomputable def AKh (k : IntKind) (x : X) : bV := fun _ R _ => (x.ev R).FH fun _ n s => mkI k n s
noncomputable def AEc (f : Nat) (a c : List X) : bV := fun _ R _ => some (.fn f (Q8 a R) (Q8 c R))
noncomputable def zf (off : Nat) (x : X) : bV := fun _ R _ => AX off (x.ev R)
noncomputable def qZ (off : Nat) (x : X) : bV := fun _ R _ => (x.ev R).aQ fun l => nth l off
noncomputable def qm (off n : Nat) (x : X) : bV := fun _ R _ => (x.ev R).aQ fun l => some (.agg (TG n (YC off l)))
noncomputable def AAY (esz : Nat) (x i : X) : bV := fun _ R _ => BI esz (x.ev R) (i.ev R)
noncomputable def qo (n esz : Nat) (x i : X) : bV := fun _ R _ => Ro (i.ev R) fun i => Aq (Nat.blt i n) (AX (Nat.mul i esz) (x.ev R))
noncomputable def ADl (x i : X) : bV := fun _ R _ => (x.ev R).Oq fun ln c => Ro (i.ev R) fun i => Aq (Nat.blt i ln) (CW (AFT c i) fun b => some (.int .u8 (.ofNat b) 0))
noncomputable def AD3 (n : Nat) (x i : X) : bV := fun _ R _ => (x.ev R).aQ fun l => Ro (i.ev R) fun i => Aq (Nat.blt i n) (nth l i)
noncomputable def AI8 (x : X) (i : Nat) : bV := fun _ R _ => (x.ev R).ABy fun l => nth l i
noncomputable def ADf (x : X) : bV := fun _ R _ => (x.ev R).Oq fun n _ => some (.int .i64 (.ofNat n) 0)
noncomputable def AD4 (x : X) : bV := fun _ R _ => lenV (x.ev R)
noncomputable def AEO (x : X) : bV := fun _ R H => NR H (x.ev R) fun es _ => CW (len es) fun n => some (.int .i64 (.ofNat n) 0)
noncomputable def APV (n : Nat) : bV := fun _ _ _ => some (.int .i64 (.ofNat n) 0)
noncomputable def AEb (ok : Bool) (z : V) (r : Option (Nat × V)) : Option V :=
 Option.rec (motive := fun _ => Option V) (mF ok (some (.Gh [z, .bool false])) (some z)) (fun p => mF ok (some (.Gh [p.2, .bool true])) (some p.2)) r
noncomputable def ADo (c : CK) (ok : Bool) (z : V) (m k : X) : bV := fun _ R H => NR H (m.ev R) fun es _ => BK (dD c (k.ev R) es 0) (AEb ok z)
noncomputable def AAQ (z : LV) (ps : List (Nat × Nat × X)) : bV := fun _ R _ => Aq (Qc ps R) (some (.agg (Zw ps R z)))
noncomputable def uK (x : X) (lo hi : Option X) : bV := fun _ R _ => Rf (x.ev R) R lo hi
noncomputable def AKS (z : Nat) (x : X) (lo hi mx : Option X) : bV := fun _ R _ => zM z (x.ev R) R lo hi mx
noncomputable def xK (n esz : Nat) (x : X) (lo hi : Option X) : bV := fun _ R _ => (x.ev R).xq (fun id o => Uo hi R n fun h => Uo lo R 0 fun l =>
 Aq (band (Nat.beq (Nat.mod o esz) 0) (band (Nat.ble l h) (Nat.ble h n))) (f3 (Nat.add (Nat.div o esz) l) (Nat.sub h l) (Nat.sub n l) fun a b c => .sl id a b c esz)) (fun _ _ => none)
noncomputable def AJN (x y : X) : bV := fun _ R _ => (x.ev R).FH fun k a s => (y.ev R).FH fun k' b t => Aq (band (keq k k') (Nat.beq (Nat.add s t) 0)) (some (.int k (Bool.rec a b (ilt a b)) 0))
noncomputable def AIx (x y : X) : bV := fun _ R _ => (x.ev R).FH fun k a s => (y.ev R).FH fun k' b t => Aq (band (keq k k') (Nat.beq (Nat.add s t) 0)) (some (.int k (Bool.rec a b (ilt b a)) 0))
noncomputable def AJR (x : X) : bV := fun G R H => Aq (Ue (isStr (x.ev R))) (BK (elems (x.ev R) G H 1) fun l => BK (jT l) fun c => f3 (len l) c 0 fun n c _ => .str n c)
noncomputable def zQ (s c : X) : bV := fun _ R _ => (s.ev R).Oq fun n cd => (c.ev R).FH fun k b _ => Aq (Nat.beq (kno k) 4) (AGP b fun b => Aq (Nat.blt b 256) (JF (Xc b n cd 0) fun i => some (.int .i64 i 0)))
noncomputable def AEX (x y : V) : Option V := x.Oq fun l c => y.Oq fun m d => some (.int .i64 (Bool.rec (Bool.rec (.ofNat 0) (.ofNat 1) (slt m d l c)) (.negSucc 0) (slt l c m d)) 0)
noncomputable def AEK (x y : X) : bV := fun _ R _ => AEX (x.ev R) (y.ev R)
noncomputable def AN.ev (o : AN) : bV := AN.rec (motive := fun _ => bV)
 eMv ADb AJt AIz zu AKL eEq AJA AJG AKh AEc zf qZ qm AAY qo ADl AD3 AI8 ADf AD4 AEO APV ADo AAQ uK AKS xK AJN AIx AJR zQ AEK o
noncomputable def ACt (L : LV) (n : Nat) : T LV -> T LV :=
 Nat.rec (motive := fun _ => T LV -> T LV) (fun t => t) (fun i g t => g (T.set t i L)) n
noncomputable def EP (LS : D5) : Nat -> T LV -> T LV :=
 List.rec (motive := fun _ => Nat -> T LV -> T LV) (fun _ t => t) (fun L _ g i t => g (Nat.succ i) (T.set t i L)) LS
noncomputable def WG (parts : List (Nat × X)) : RS -> T LV -> T LV :=
 List.rec (motive := fun _ => RS -> T LV -> T LV) (fun _ t => t) (fun p _ g R t => g R (T.set t p.1 (BP (p.2.ev R)))) parts
noncomputable def Oc (parts : List (Nat × X)) : RS -> Nat -> Nat -> Bool :=
 List.rec (motive := fun _ => RS -> Nat -> Nat -> Bool) (fun _ _ _ => true) (fun p _ g R esz cnt => band (band (Xm (p.2.ev R)) (band (Nat.blt p.1 cnt) (Nat.beq (len (BP (p.2.ev R))) esz))) (g R esz cnt)) parts
noncomputable def V.AHn (v : V) : (Nat -> Prop) -> Prop :=
 V.rec (motive_1 := fun _ => (Nat -> Prop) -> Prop) (motive_2 := fun _ => PUnit)
  (fun _ => False)
  (fun _ _ _ _ => False)
  (fun _ _ => False)
  (fun _ _ _ => False)
  (fun _ => False)
  (fun a _ f => f a)
  (fun _ _ _ => False)
  (fun _ => False)
  (fun _ _ _ _ _ _ => False)
  (fun _ _ _ _ _ => False)
  (fun _ _ _ _ _ _ => False)
  (fun _ => False)
  (fun _ _ => False)
  (fun _ => False)
  (fun _ _ _ _ _ _ => False)
  (fun _ _ _ => False)
  (fun _ _ _ => False)
  (fun _ => False)
  (fun _ _ _ _ => False)
  ⟨⟩ (fun _ _ _ _ => ⟨⟩) v
noncomputable def V.kC (v : V) : (Nat -> Nat -> Prop) -> Prop :=
 V.rec (motive_1 := fun _ => (Nat -> Nat -> Prop) -> Prop) (motive_2 := fun _ => PUnit)
  (fun _ => False)
  (fun _ _ _ _ => False)
  (fun _ _ => False)
  (fun _ _ _ => False)
  (fun _ => False)
  (fun a b f => f a b)
  (fun _ _ _ => False)
  (fun _ => False)
  (fun _ _ _ _ _ _ => False)
  (fun _ _ _ _ _ => False)
  (fun _ _ _ _ _ _ => False)
  (fun _ => False)
  (fun _ _ => False)
  (fun _ => False)
  (fun _ _ _ _ _ _ => False)
  (fun _ _ _ => False)
  (fun _ _ _ => False)
  (fun _ => False)
  (fun _ _ _ _ => False)
  ⟨⟩ (fun _ _ _ _ => ⟨⟩) v
abbrev KA := OL -> (Nat -> V) -> Prop
abbrev AlT := RS -> KA -> Prop
noncomputable def Gn (b : Bool) (p : Prop) : Prop := Bool.rec (motive := fun _ => Prop -> Prop) (fun _ => False) (fun p => p) b p
noncomputable def zx (v : V) (f : Nat -> Prop) : Prop := FM (Ro v fun n => some (.ptr n 0)) fun v => V.AHn v f
noncomputable def Ai (esz : Nat) (es : D5) : AlT := fun _ k => DK (len es) fun n => k (.arr esz n (EP es 0 .e)) fun id => .ptr id 0
noncomputable def wI (x : X) : AlT := fun R k => Gn (Xm (x.ev R)) (DK (len (BP (x.ev R))) fun e => k (.arr e 1 (T.set .e 0 (BP (x.ev R)))) fun id => .ptr id 0)
noncomputable def Ah (esz cnt : Nat) (z : LV) (ps : List (Nat × X)) : AlT := fun R k => Gn (Oc ps R esz cnt) (k (.arr esz cnt (WG ps R (ACt z cnt .e))) fun id => .sl id 0 cnt cnt esz)
noncomputable def OA (esz bs : Nat) (z : LV) (l c : X) : AlT := fun R k => zx (l.ev R) fun l => zx (c.ev R) fun c =>
 Gn (band (Nat.ble l c) (Nat.ble (Nat.mul bs c) 281474976710656)) (k (.arr esz c (ACt z c .e)) fun id => .sl id 0 l c esz)
noncomputable def ACq : AlT := fun _ k => k (.map [] 0) fun id => .map id
noncomputable def AA.al (o : AA) : AlT := AA.rec (motive := fun _ => AlT) Ai wI Ah OA ACq o
abbrev K := FT -> Heap -> Nat -> Prop
abbrev KV := V -> Heap -> Nat -> Prop
abbrev AQ := Nat -> List V -> Heap -> Nat -> KV -> Prop
noncomputable def NG (need bytes : Nat) : Bool := Nat.ble (Nat.mul need bytes) 140737488355328
abbrev ACx := AP -> Nat -> Nat -> D5 -> Heap -> Nat -> KV -> Prop
noncomputable def MF (esz bs : Nat) (OS LS : D5) (H : Heap) (n : Nat) (k : KV) : Prop :=
 DK (Nat.add (len OS) (len LS)) fun need => Gn (NG need bs) (DK n fun n => k (.Nr n 0 need esz) (T.set H n (.arr esz need (EP LS (len OS) (EP OS 0 .e)))) (Nat.succ n))
noncomputable def ALa : ACx := fun _ esz bs LS H n k => List.rec (motive := fun _ => Prop) (k .Ae H n) (fun _ _ _ => MF esz bs [] LS H n k) LS
noncomputable def pz (id off ln cap esz need : Nat) (LS : D5) (H : Heap) (n : Nat) (k : KV) (b : OL) : Prop :=
 OL.rec (motive := fun _ => Prop) (fun esz' cnt c => Gn (band (Nat.beq esz esz') (Nat.ble (Nat.add off need) cnt)) (k (.sl id off need cap esz) (T.set H id (.arr esz cnt (EP LS (Nat.add off ln) c))) n)) (fun _ _ => False) False b
noncomputable def AKm (id off ln cap e : Nat) : ACx := fun _ esz bs LS H n k => Gn (Nat.beq e esz) (DK (Nat.add ln (len LS)) fun need =>
 Bool.rec (motive := fun _ => Prop) (FM (CY H id esz ln off) fun OS => MF esz bs OS LS H n k) (FM (T.get H id) fun b => pz id off ln cap esz need LS H n k b) (Nat.ble need cap))
noncomputable def XB (id off ln esz bs : Nat) (LS : D5) (H : Heap) (n : Nat) (k : KV) (b : OL) : Prop :=
 OL.rec (motive := fun _ => Prop) (fun esz' cnt c => DK (Nat.add ln (len LS)) fun need => Gn (band (NG need bs) (band (Nat.beq esz esz') (Nat.ble (Nat.add off ln) cnt)))
  (DK n fun n => Nat.rec (motive := fun _ => Prop)
   (k (.Nr n 0 need esz) (T.set (T.set H id .dead) n (.arr esz need (EP LS ln c))) (Nat.succ n))
   (fun _ _ => FM (CY H id esz ln off) fun OS => k (.Nr n 0 need esz) (T.set (T.set H id .dead) n (.arr esz need (EP LS ln (EP OS 0 .e)))) (Nat.succ n)) off))
  (fun _ _ => False) False b
noncomputable def AGS (id off ln e : Nat) : ACx := fun _ esz bs LS H n k => Gn (Nat.beq e esz) (List.rec (motive := fun _ => Prop) (k (.Nr id off ln esz) H n)
 (fun _ _ _ => FM (T.get H id) fun b => XB id off ln esz bs LS H n k b) LS)
noncomputable def AGB (b off ln cap e : Nat) : ACx := fun G esz bs LS H n k => Gn (Nat.blt cap (Nat.add ln (len LS))) (FM (Z7 G b esz ln off) fun OS => MF esz bs OS LS H n k)
noncomputable def Vh : ACx := fun _ _ _ _ _ _ _ => False
noncomputable def AAr (v : V) : ACx :=
 V.rec (motive_1 := fun _ => ACx) (motive_2 := fun _ => PUnit)
  (Vh)
  (fun _ _ _ => Vh)
  (fun _ => Vh)
  (fun _ _ => Vh)
  (Vh)
  (fun _ _ => Vh)
  (fun _ _ => Vh)
  (ALa)
  (fun a b c d e => AKm a b c d e)
  (fun a b c d => AGS a b c d)
  (fun a b c d e => AGB a b c d e)
  (Vh)
  (fun _ => Vh)
  (Vh)
  (fun _ _ _ _ _ => Vh)
  (fun _ _ => Vh)
  (fun _ _ => Vh)
  (Vh)
  (fun _ _ _ => Vh)
  ⟨⟩ (fun _ _ _ _ => ⟨⟩) v
noncomputable def AMV (id off esz : Nat) (LS : D5) (H : Heap) (n : Nat) (k : KV) (b : OL) : Prop :=
 OL.rec (motive := fun _ => Prop) (fun esz' cnt c => Gn (band (Nat.beq esz esz') (Nat.ble (Nat.add off (len LS)) cnt)) (DK (len LS) fun m => k (.int .i64 (.ofNat m) 0) (T.set H id (.arr esz cnt (EP LS off c))) n)) (fun _ _ => False) False b
abbrev CpT := Nat -> D5 -> Heap -> Nat -> KV -> Prop
noncomputable def rH (id off ln : Nat) : CpT := fun esz LS H n k => FM (T.get H id) fun b => AMV id off esz (TG ln LS) H n k b
noncomputable def wO (v : V) : (Nat) -> (D5) -> (Heap) -> (Nat) -> (KV) -> Prop :=
 V.rec (motive_1 := fun _ => (Nat) -> (D5) -> (Heap) -> (Nat) -> (KV) -> Prop) (motive_2 := fun _ => PUnit)
  (fun _ _ _ _ _ => False)
  (fun _ _ _ _ _ _ _ _ => False)
  (fun _ _ _ _ _ _ => False)
  (fun _ _ _ _ _ _ _ => False)
  (fun _ _ _ _ _ => False)
  (fun _ _ _ _ _ _ _ => False)
  (fun _ _ _ _ _ _ _ => False)
  (fun _ _ H n k => k (.int .i64 (.ofNat 0) 0) H n)
  (fun a b c _ e z L H n k => Gn (Nat.beq e z) (rH a b c z L H n k))
  (fun a b c d z L H n k => Gn (Nat.beq d z) (rH a b c z L H n k))
  (fun _ _ _ _ _ _ _ _ _ _ => False)
  (fun _ _ _ _ _ => False)
  (fun _ _ _ _ _ _ => False)
  (fun _ _ _ _ _ => False)
  (fun _ _ _ _ _ _ _ _ _ _ => False)
  (fun _ _ _ _ _ _ _ => False)
  (fun _ _ _ _ _ _ _ => False)
  (fun _ _ _ _ _ => False)
  (fun _ _ _ _ _ _ _ _ => False)
  ⟨⟩ (fun _ _ _ _ => ⟨⟩) v
noncomputable def vH {α : Type} (l : List α) : Nat -> List α :=
 List.rec (motive := fun _ => Nat -> List α) (fun _ => []) (fun y ys g i => Nat.rec (motive := fun _ => List α) ys (fun i _ => y :: g i) i) l
noncomputable def ALH (b : OL) : (ME -> Nat -> Option OL) -> Option OL := OL.rec (motive := fun _ => (ME -> Nat -> Option OL) -> Option OL) (fun _ _ _ _ => none) (fun es c f => f es c) (fun _ => none) b
noncomputable def AOT (H : Heap) (id : Nat) (f : ME -> Nat -> Option OL) (g : Heap -> Prop) : Prop := FM (T.get H id) fun b => FM (ALH b f) fun b => g (T.set H id b)
noncomputable def qL (v : V) : (Heap) -> (ME -> Nat -> Option OL) -> (Heap -> Prop) -> Prop :=
 V.rec (motive_1 := fun _ => (Heap) -> (ME -> Nat -> Option OL) -> (Heap -> Prop) -> Prop) (motive_2 := fun _ => PUnit)
  (fun _ _ _ => False)
  (fun _ _ _ _ _ _ => False)
  (fun _ _ _ _ => False)
  (fun _ _ _ _ _ => False)
  (fun _ _ _ => False)
  (fun _ _ _ _ _ => False)
  (fun _ _ _ _ _ => False)
  (fun _ _ _ => False)
  (fun _ _ _ _ _ _ _ _ => False)
  (fun _ _ _ _ _ _ _ => False)
  (fun _ _ _ _ _ _ _ _ => False)
  (fun _ _ _ => False)
  (fun a H f g => AOT H a f g)
  (fun _ _ _ => False)
  (fun _ _ _ _ _ _ _ _ => False)
  (fun _ _ _ _ _ => False)
  (fun _ _ _ _ _ => False)
  (fun _ _ _ => False)
  (fun _ _ _ _ _ _ => False)
  ⟨⟩ (fun _ _ _ _ => ⟨⟩) v
noncomputable def V.Ru (v : V) : (Nat -> LV -> LV -> Prop) -> Prop :=
 V.rec (motive_1 := fun _ => (Nat -> LV -> LV -> Prop) -> Prop) (motive_2 := fun _ => PUnit)
  (fun _ => False)
  (fun _ _ _ _ => False)
  (fun _ _ => False)
  (fun _ _ _ => False)
  (fun _ => False)
  (fun _ _ _ => False)
  (fun _ _ _ => False)
  (fun _ => False)
  (fun _ _ _ _ _ _ => False)
  (fun _ _ _ _ _ => False)
  (fun _ _ _ _ _ _ => False)
  (fun _ => False)
  (fun _ _ => False)
  (fun _ => False)
  (fun a b c _ _ f => f a b c)
  (fun _ _ _ => False)
  (fun _ _ _ => False)
  (fun _ => False)
  (fun _ _ _ _ => False)
  ⟨⟩ (fun _ _ _ _ => ⟨⟩) v
noncomputable def bW (v : V) : LV :=
 V.rec (motive_1 := fun _ => LV) (motive_2 := fun _ => PUnit)
  ([])
  (fun _ _ _ => [])
  (fun _ => [])
  (fun _ _ => [])
  ([])
  (fun _ _ => [])
  (fun _ _ => [])
  ([])
  (fun _ _ _ _ _ => [])
  (fun _ _ _ _ => [])
  (fun _ _ _ _ _ => [])
  ([])
  (fun _ => [])
  ([])
  (fun _ _ _ _ _ => [])
  (fun _ _ => [])
  (fun a _ => a)
  ([])
  (fun _ _ _ => [])
  ⟨⟩ (fun _ _ _ _ => ⟨⟩) v
abbrev ExT := AP -> AQ -> RS -> Heap -> Nat -> KV -> Prop
noncomputable def ASy (x : X) : ExT := fun _ _ R H n k => k (x.ev R) H n
noncomputable def xSt (sz : Nat) (x v : X) : ExT := fun _ _ R H n k => Gn (band (Xm (v.ev R)) (Nat.beq (len (BP (v.ev R))) sz)) (FM (stP (x.ev R) H sz (BP (v.ev R))) fun H => k .undef H n)
noncomputable def ATH (esz bs : Nat) (x y : X) : ExT := fun G _ R H n k => FM (elems (y.ev R) G H esz) fun LS => AAr (x.ev R) G esz bs LS H n k
noncomputable def AQV (esz : Nat) (x y : X) : ExT := fun G _ R H n k => FM (elems (y.ev R) G H esz) fun LS => wO (x.ev R) esz LS H n k
noncomputable def ACO (ck : CK) (key v : V) (es : ME) (c : Nat) : Option OL := BK (dD ck key es 0) fun r =>
 Option.rec (motive := fun _ => Option OL) (some (.map (cat es [(key, v, c)]) (Nat.succ c))) (fun p => BK (nth es p.1) fun e => some (.map (Yc (e.1, v, e.2.2) es p.1) c)) r
noncomputable def AIW (ck : CK) (key : V) (es : ME) (c : Nat) : Option OL := BK (dD ck key es 0) fun r =>
 Option.rec (motive := fun _ => Option OL) (some (.map es c)) (fun p => some (.map (vH es p.1) c)) r
noncomputable def ASH (c : CK) (m key v : X) : ExT := fun _ _ R H n k => qL (m.ev R) H (ACO c (key.ev R) (v.ev R)) fun H => k .undef H n
noncomputable def ASc (c : CK) (m key : X) : ExT := fun _ _ R H n k => qL (m.ev R) H (AIW c (key.ev R)) fun H => k (.Gh []) H n
noncomputable def ATb (m : X) : ExT := fun _ _ R H n k => qL (m.ev R) H (fun _ c => some (.map [] c)) fun H => k (.Gh []) H n
noncomputable def AOu (f : Nat) (args : List X) : ExT := fun _ call R H n k => call f (Q8 args R) H n k
noncomputable def AMx (x : X) (args : List X) : ExT := fun _ call R H n k => V.Ru (x.ev R) fun f a c => call f (cat a (cat (Q8 args R) c)) H n k
noncomputable def AMr (dp : P2) (x : X) (args : List X) : ExT := fun _ _ R H n k => V.Ru (x.ev R) fun f a c => k (.Gh (.fn f (cat a (Q8 args R)) c :: bW (KD (T.DU dp R.rg)))) H n
noncomputable def ATO (x : X) : ExT := fun _ _ R H n k => FM ((x.ev R).Oq fun l c => some (.ptr l c)) fun v => V.kC v fun l c =>
 DK n fun n => k (.Nr n 0 l 1) (T.set H n (.arr 1 l (EP (Pm l c) 0 .e))) (Nat.succ n)
noncomputable def AE.ex (o : AE) : ExT := AE.rec (motive := fun _ => ExT) ASy xSt ATH AQV ASH ASc ATb AOu AMx AMr ATO o
noncomputable def ATQ (p : P2) (v : V) (E : RS) : RS := RS.rec (motive := fun _ => P2 -> V -> RS) (fun L R p v => .mk L (T.Ik v p R)) E p v
noncomputable def AO8 (v : V) (E : RS) : RS := RS.rec (motive := fun _ => V -> RS) (fun L R v => .mk (v :: L) R) E v
noncomputable def Eb (d : Zn) (v : V) : RS -> RS := Zn.rec (motive := fun _ => V -> RS -> RS) (fun _ R => R) ATQ AO8 d v
abbrev KE := RS -> Heap -> Nat -> Prop
abbrev XoT := AP -> AQ -> Zn -> RS -> Heap -> Nat -> KE -> Prop
noncomputable def oN (o : AN) : XoT := fun G _ d R H n k => AU (o.ev G R H) fun v => k (Eb d v R) H n
noncomputable def oA (o : AA) : XoT := fun _ _ d R H n k => o.al R fun b f => DK n fun n => k (Eb d (f n) R) (T.set H n b) (Nat.succ n)
noncomputable def oE (o : AE) : XoT := fun G call d R H n k => o.ex G call R H n fun v H n => k (Eb d v R) H n
noncomputable def AO.ex (o : AO) : XoT := AO.rec (motive := fun _ => XoT) oN oA oE o
noncomputable def Ac (v : V) (b : Bool) (yes no : Prop) : Prop := v.AAa fun t => Bool.rec (motive := fun _ => Prop -> Prop -> Prop) (fun _ n => n) (fun y _ => y) (AH3 t b) yes no
noncomputable def Xn (v : V) : (Bool) -> (Prop) -> (Prop) -> Prop :=
 V.rec (motive_1 := fun _ => (Bool) -> (Prop) -> (Prop) -> Prop) (motive_2 := fun _ => PUnit)
  (fun _ _ _ => False)
  (fun _ _ _ _ _ _ => False)
  (fun a b' yes no => Bool.rec (motive := fun _ => Prop -> Prop -> Prop) (fun _ n => n) (fun y _ => y) (AH3 a b') yes no)
  (fun _ _ _ _ _ => False)
  (fun _ _ _ => False)
  (fun _ _ _ _ _ => False)
  (fun _ _ _ _ _ => False)
  (fun _ _ _ => False)
  (fun _ _ _ _ _ _ _ _ => False)
  (fun _ _ _ _ _ _ _ => False)
  (fun _ _ _ _ _ _ _ _ => False)
  (fun _ _ _ => False)
  (fun _ _ _ _ => False)
  (fun _ _ _ => False)
  (fun _ _ _ _ _ _ _ _ => False)
  (fun _ _ _ _ _ => False)
  (fun a _ _ _ no => List.rec (motive := fun _ => Prop) no (fun _ _ _ => False) a)
  (fun _ _ _ => False)
  (fun _ _ _ _ _ _ => False)
  ⟨⟩ (fun _ _ _ _ => ⟨⟩) v
abbrev oL := AP -> AQ -> RS -> Heap -> Nat -> KE -> Prop
noncomputable def gNo (d : Zn) (o : AO) : oL := fun G call R H n k => o.ex G call d R H n k
noncomputable def gOn (x : X) (b : Bool) (d : Zn) (o : AO) : oL := fun G call R H n k => Xn (x.ev R) b (o.ex G call d R H n k) (k (Eb d (.Gh []) R) H n)
noncomputable def iY.ex (o : iY) : oL := iY.rec (motive := fun _ => oL) (fun d g o => Gd.rec (motive := fun _ => Zn -> AO -> oL) gNo gOn g d o) o
noncomputable def ADi (v : V) : (IntKind) -> (Int) -> (Nat) -> Bool :=
 V.rec (motive_1 := fun _ => (IntKind) -> (Int) -> (Nat) -> Bool) (motive_2 := fun _ => PUnit)
  (fun _ _ _ => false)
  (fun a b c k n s => band (keq k a) (band (ieq n b) (band (Nat.beq s 0) (Nat.beq c 0))))
  (fun _ _ _ _ => false)
  (fun _ _ _ _ _ => false)
  (fun _ _ _ => false)
  (fun _ _ _ _ _ => false)
  (fun _ _ _ _ _ => false)
  (fun _ _ _ => false)
  (fun _ _ _ _ _ _ _ _ => false)
  (fun _ _ _ _ _ _ _ => false)
  (fun _ _ _ _ _ _ _ _ => false)
  (fun _ _ _ => false)
  (fun _ _ _ _ => false)
  (fun _ _ _ => false)
  (fun _ _ _ _ _ _ _ _ => false)
  (fun _ _ _ _ _ => false)
  (fun _ _ _ _ _ => false)
  (fun _ _ _ => false)
  (fun _ _ _ _ _ _ => false)
  ⟨⟩ (fun _ _ _ _ => ⟨⟩) v
noncomputable def ADW (v : V) : (Bool) -> Bool :=
 V.rec (motive_1 := fun _ => (Bool) -> Bool) (motive_2 := fun _ => PUnit)
  (fun _ => false)
  (fun _ _ _ _ => false)
  (fun a x => AH3 x a)
  (fun _ _ _ => false)
  (fun _ => false)
  (fun _ _ _ => false)
  (fun _ _ _ => false)
  (fun _ => false)
  (fun _ _ _ _ _ _ => false)
  (fun _ _ _ _ _ => false)
  (fun _ _ _ _ _ _ => false)
  (fun _ => false)
  (fun _ _ => false)
  (fun _ => false)
  (fun _ _ _ _ _ _ => false)
  (fun _ _ _ => false)
  (fun _ _ _ => false)
  (fun _ => false)
  (fun _ _ _ _ => false)
  ⟨⟩ (fun _ _ _ _ => ⟨⟩) v
noncomputable def AD8 (v : V) : (Nat) -> (Nat) -> Bool :=
 V.rec (motive_1 := fun _ => (Nat) -> (Nat) -> Bool) (motive_2 := fun _ => PUnit)
  (fun _ _ => false)
  (fun _ _ _ _ _ => false)
  (fun _ _ _ => false)
  (fun a b l m => band (Nat.beq l a) (Nat.beq m b))
  (fun _ _ => false)
  (fun _ _ _ _ => false)
  (fun _ _ _ _ => false)
  (fun _ _ => false)
  (fun _ _ _ _ _ _ _ => false)
  (fun _ _ _ _ _ _ => false)
  (fun _ _ _ _ _ _ _ => false)
  (fun _ _ => false)
  (fun _ _ _ => false)
  (fun _ _ => false)
  (fun _ _ _ _ _ _ _ => false)
  (fun _ _ _ _ => false)
  (fun _ _ _ _ => false)
  (fun _ _ => false)
  (fun _ _ _ _ _ => false)
  ⟨⟩ (fun _ _ _ _ => ⟨⟩) v
noncomputable def AAV (v : V) : Bool :=
 V.rec (motive_1 := fun _ => Bool) (motive_2 := fun _ => PUnit)
  (false)
  (fun _ _ _ => false)
  (fun _ => false)
  (fun _ _ => false)
  (true)
  (fun _ _ => false)
  (fun _ _ => false)
  (false)
  (fun _ _ _ _ _ => false)
  (fun _ _ _ _ => false)
  (fun _ _ _ _ _ => false)
  (false)
  (fun _ => false)
  (false)
  (fun _ _ _ _ _ => false)
  (fun _ _ => false)
  (fun _ _ => false)
  (false)
  (fun _ _ _ => false)
  ⟨⟩ (fun _ _ _ _ => ⟨⟩) v
noncomputable def zK (v : V) : Bool :=
 V.rec (motive_1 := fun _ => Bool) (motive_2 := fun _ => PUnit)
  (false)
  (fun _ _ _ => false)
  (fun _ => false)
  (fun _ _ => false)
  (false)
  (fun _ _ => false)
  (fun _ _ => false)
  (true)
  (fun _ _ _ _ _ => false)
  (fun _ _ _ _ => false)
  (fun _ _ _ _ _ => false)
  (false)
  (fun _ => false)
  (false)
  (fun _ _ _ _ _ => false)
  (fun _ _ => false)
  (fun _ _ => false)
  (false)
  (fun _ _ _ => false)
  ⟨⟩ (fun _ _ _ _ => ⟨⟩) v
noncomputable def AAZ (v : V) : Bool :=
 V.rec (motive_1 := fun _ => Bool) (motive_2 := fun _ => PUnit)
  (false)
  (fun _ _ _ => false)
  (fun _ => false)
  (fun _ _ => false)
  (false)
  (fun _ _ => false)
  (fun _ _ => false)
  (false)
  (fun _ _ _ _ _ => false)
  (fun _ _ _ _ => false)
  (fun _ _ _ _ _ => false)
  (true)
  (fun _ => false)
  (false)
  (fun _ _ _ _ _ => false)
  (fun _ _ => false)
  (fun _ _ => false)
  (false)
  (fun _ _ _ => false)
  ⟨⟩ (fun _ _ _ _ => ⟨⟩) v
noncomputable def AAT (v : V) : Bool :=
 V.rec (motive_1 := fun _ => Bool) (motive_2 := fun _ => PUnit)
  (false)
  (fun _ _ _ => false)
  (fun _ => false)
  (fun _ _ => false)
  (false)
  (fun _ _ => false)
  (fun _ _ => false)
  (false)
  (fun _ _ _ _ _ => false)
  (fun _ _ _ _ => false)
  (fun _ _ _ _ _ => false)
  (false)
  (fun _ => false)
  (true)
  (fun _ _ _ _ _ => false)
  (fun _ _ => false)
  (fun _ _ => false)
  (false)
  (fun _ _ _ => false)
  ⟨⟩ (fun _ _ _ _ => ⟨⟩) v
noncomputable def AHg (v : V) : (Nat) -> (Nat) -> Bool :=
 V.rec (motive_1 := fun _ => (Nat) -> (Nat) -> Bool) (motive_2 := fun _ => PUnit)
  (fun _ _ => false)
  (fun _ _ _ _ _ => false)
  (fun _ _ _ => false)
  (fun _ _ _ _ => false)
  (fun _ _ => false)
  (fun a b l m => band (Nat.beq l a) (Nat.beq m b))
  (fun _ _ _ _ => false)
  (fun _ _ => false)
  (fun _ _ _ _ _ _ _ => false)
  (fun _ _ _ _ _ _ => false)
  (fun _ _ _ _ _ _ _ => false)
  (fun _ _ => false)
  (fun _ _ _ => false)
  (fun _ _ => false)
  (fun _ _ _ _ _ _ _ => false)
  (fun _ _ _ _ => false)
  (fun _ _ _ _ => false)
  (fun _ _ => false)
  (fun _ _ _ _ _ => false)
  ⟨⟩ (fun _ _ _ _ => ⟨⟩) v
noncomputable def ACW (v : V) : (Nat) -> (Nat) -> Bool :=
 V.rec (motive_1 := fun _ => (Nat) -> (Nat) -> Bool) (motive_2 := fun _ => PUnit)
  (fun _ _ => false)
  (fun _ _ _ _ _ => false)
  (fun _ _ _ => false)
  (fun _ _ _ _ => false)
  (fun _ _ => false)
  (fun _ _ _ _ => false)
  (fun a b l m => band (Nat.beq l a) (Nat.beq m b))
  (fun _ _ => false)
  (fun _ _ _ _ _ _ _ => false)
  (fun _ _ _ _ _ _ => false)
  (fun _ _ _ _ _ _ _ => false)
  (fun _ _ => false)
  (fun _ _ _ => false)
  (fun _ _ => false)
  (fun _ _ _ _ _ _ _ => false)
  (fun _ _ _ _ => false)
  (fun _ _ _ _ => false)
  (fun _ _ => false)
  (fun _ _ _ _ _ => false)
  ⟨⟩ (fun _ _ _ _ => ⟨⟩) v
noncomputable def AGJ (v : V) : (Nat) -> Bool :=
 V.rec (motive_1 := fun _ => (Nat) -> Bool) (motive_2 := fun _ => PUnit)
  (fun _ => false)
  (fun _ _ _ _ => false)
  (fun _ _ => false)
  (fun _ _ _ => false)
  (fun _ => false)
  (fun _ _ _ => false)
  (fun _ _ _ => false)
  (fun _ => false)
  (fun _ _ _ _ _ _ => false)
  (fun _ _ _ _ _ => false)
  (fun _ _ _ _ _ _ => false)
  (fun _ => false)
  (fun a l => Nat.beq l a)
  (fun _ => false)
  (fun _ _ _ _ _ _ => false)
  (fun _ _ _ => false)
  (fun _ _ _ => false)
  (fun _ => false)
  (fun _ _ _ _ => false)
  ⟨⟩ (fun _ _ _ _ => ⟨⟩) v
noncomputable def AIZ (v : V) : (Nat) -> (Nat) -> (Nat) -> (Nat) -> (Nat) -> Bool :=
 V.rec (motive_1 := fun _ => (Nat) -> (Nat) -> (Nat) -> (Nat) -> (Nat) -> Bool) (motive_2 := fun _ => PUnit)
  (fun _ _ _ _ _ => false)
  (fun _ _ _ _ _ _ _ _ => false)
  (fun _ _ _ _ _ _ => false)
  (fun _ _ _ _ _ _ _ => false)
  (fun _ _ _ _ _ => false)
  (fun _ _ _ _ _ _ _ => false)
  (fun _ _ _ _ _ _ _ => false)
  (fun _ _ _ _ _ => false)
  (fun a b c d e i j k l m => band (Nat.beq i a) (band (Nat.beq j b) (band (Nat.beq k c) (band (Nat.beq l d) (Nat.beq m e)))))
  (fun _ _ _ _ _ _ _ _ _ => false)
  (fun _ _ _ _ _ _ _ _ _ _ => false)
  (fun _ _ _ _ _ => false)
  (fun _ _ _ _ _ _ => false)
  (fun _ _ _ _ _ => false)
  (fun _ _ _ _ _ _ _ _ _ _ => false)
  (fun _ _ _ _ _ _ _ => false)
  (fun _ _ _ _ _ _ _ => false)
  (fun _ _ _ _ _ => false)
  (fun _ _ _ _ _ _ _ _ => false)
  ⟨⟩ (fun _ _ _ _ => ⟨⟩) v
noncomputable def AD2 (v : V) : (Nat) -> (Nat) -> (Nat) -> (Nat) -> Bool :=
 V.rec (motive_1 := fun _ => (Nat) -> (Nat) -> (Nat) -> (Nat) -> Bool) (motive_2 := fun _ => PUnit)
  (fun _ _ _ _ => false)
  (fun _ _ _ _ _ _ _ => false)
  (fun _ _ _ _ _ => false)
  (fun _ _ _ _ _ _ => false)
  (fun _ _ _ _ => false)
  (fun _ _ _ _ _ _ => false)
  (fun _ _ _ _ _ _ => false)
  (fun _ _ _ _ => false)
  (fun _ _ _ _ _ _ _ _ _ => false)
  (fun a b c d i j k l => band (Nat.beq i a) (band (Nat.beq j b) (band (Nat.beq k c) (Nat.beq l d))))
  (fun _ _ _ _ _ _ _ _ _ => false)
  (fun _ _ _ _ => false)
  (fun _ _ _ _ _ => false)
  (fun _ _ _ _ => false)
  (fun _ _ _ _ _ _ _ _ _ => false)
  (fun _ _ _ _ _ _ => false)
  (fun _ _ _ _ _ _ => false)
  (fun _ _ _ _ => false)
  (fun _ _ _ _ _ _ _ => false)
  ⟨⟩ (fun _ _ _ _ => ⟨⟩) v
noncomputable def AHl (v : V) : (Nat) -> (Nat) -> (Nat) -> (Nat) -> (Nat) -> Bool :=
 V.rec (motive_1 := fun _ => (Nat) -> (Nat) -> (Nat) -> (Nat) -> (Nat) -> Bool) (motive_2 := fun _ => PUnit)
  (fun _ _ _ _ _ => false)
  (fun _ _ _ _ _ _ _ _ => false)
  (fun _ _ _ _ _ _ => false)
  (fun _ _ _ _ _ _ _ => false)
  (fun _ _ _ _ _ => false)
  (fun _ _ _ _ _ _ _ => false)
  (fun _ _ _ _ _ _ _ => false)
  (fun _ _ _ _ _ => false)
  (fun _ _ _ _ _ _ _ _ _ _ => false)
  (fun _ _ _ _ _ _ _ _ _ => false)
  (fun a b c d e i j k l m => band (Nat.beq i a) (band (Nat.beq j b) (band (Nat.beq k c) (band (Nat.beq l d) (Nat.beq m e)))))
  (fun _ _ _ _ _ => false)
  (fun _ _ _ _ _ _ => false)
  (fun _ _ _ _ _ => false)
  (fun _ _ _ _ _ _ _ _ _ _ => false)
  (fun _ _ _ _ _ _ _ => false)
  (fun _ _ _ _ _ _ _ => false)
  (fun _ _ _ _ _ => false)
  (fun _ _ _ _ _ _ _ _ => false)
  ⟨⟩ (fun _ _ _ _ => ⟨⟩) v
noncomputable def KH (v : V) : (V) -> Bool :=
 V.rec (motive_1 := fun _ => (V) -> Bool) (motive_2 := fun _ => PUnit)
  (fun _ => false)
  (fun a b c y => ADi y a b c)
  (fun a y => ADW y a)
  (fun a b y => AD8 y a b)
  (fun y => AAV y)
  (fun a b y => AHg y a b)
  (fun a b y => ACW y a b)
  (fun y => zK y)
  (fun a b c d e y => AIZ y a b c d e)
  (fun a b c d y => AD2 y a b c d)
  (fun a b c d e y => AHl y a b c d e)
  (fun y => AAZ y)
  (fun a y => AGJ y a)
  (fun y => AAT y)
  (fun _ _ _ _ _ _ => false)
  (fun _ _ _ => false)
  (fun _ _ _ => false)
  (fun _ => false)
  (fun _ _ _ _ => false)
  ⟨⟩ (fun _ _ _ _ => ⟨⟩) v
noncomputable def nJ (a : List V) : List V -> Bool :=
 List.rec (motive := fun _ => List V -> Bool) (fun b => List.rec (motive := fun _ => Bool) true (fun _ _ _ => false) b)
  (fun x _ g b => List.rec (motive := fun _ => Bool) false (fun y ys _ => band (KH x y) (g ys)) b) a
noncomputable def AKl (v : V) : (LV) -> Bool :=
 V.rec (motive_1 := fun _ => (LV) -> Bool) (motive_2 := fun _ => PUnit)
  (fun _ => false)
  (fun _ _ _ _ => false)
  (fun _ _ => false)
  (fun _ _ _ => false)
  (fun _ => false)
  (fun _ _ _ => false)
  (fun _ _ _ => false)
  (fun _ => false)
  (fun _ _ _ _ _ _ => false)
  (fun _ _ _ _ _ => false)
  (fun _ _ _ _ _ _ => false)
  (fun _ => false)
  (fun _ _ => false)
  (fun _ => false)
  (fun _ _ _ _ _ _ => false)
  (fun a _ l => nJ l a)
  (fun _ _ _ => false)
  (fun _ => false)
  (fun _ _ _ _ => false)
  ⟨⟩ (fun _ _ _ _ => ⟨⟩) v
noncomputable def AKy (v : V) : (LV) -> Bool :=
 V.rec (motive_1 := fun _ => (LV) -> Bool) (motive_2 := fun _ => PUnit)
  (fun _ => false)
  (fun _ _ _ _ => false)
  (fun _ _ => false)
  (fun _ _ _ => false)
  (fun _ => false)
  (fun _ _ _ => false)
  (fun _ _ _ => false)
  (fun _ => false)
  (fun _ _ _ _ _ _ => false)
  (fun _ _ _ _ _ => false)
  (fun _ _ _ _ _ _ => false)
  (fun _ => false)
  (fun _ _ => false)
  (fun _ => false)
  (fun _ _ _ _ _ _ => false)
  (fun _ _ _ => false)
  (fun a _ l => nJ l a)
  (fun _ => false)
  (fun _ _ _ _ => false)
  ⟨⟩ (fun _ _ _ _ => ⟨⟩) v
noncomputable def AA7 (v : V) : Bool :=
 V.rec (motive_1 := fun _ => Bool) (motive_2 := fun _ => PUnit)
  (true)
  (fun _ _ _ => false)
  (fun _ => false)
  (fun _ _ => false)
  (false)
  (fun _ _ => false)
  (fun _ _ => false)
  (false)
  (fun _ _ _ _ _ => false)
  (fun _ _ _ _ => false)
  (fun _ _ _ _ _ => false)
  (false)
  (fun _ => false)
  (false)
  (fun _ _ _ _ _ => false)
  (fun _ _ => false)
  (fun _ _ => false)
  (false)
  (fun _ _ _ => false)
  ⟨⟩ (fun _ _ _ _ => ⟨⟩) v
noncomputable def Ci (v : V) : (V) -> Bool :=
 V.rec (motive_1 := fun _ => (V) -> Bool) (motive_2 := fun _ => PUnit)
  (fun y => AA7 y)
  (fun a b c y => ADi y a b c)
  (fun a y => ADW y a)
  (fun a b y => AD8 y a b)
  (fun y => AAV y)
  (fun a b y => AHg y a b)
  (fun a b y => ACW y a b)
  (fun y => zK y)
  (fun a b c d e y => AIZ y a b c d e)
  (fun a b c d y => AD2 y a b c d)
  (fun a b c d e y => AHl y a b c d e)
  (fun y => AAZ y)
  (fun a y => AGJ y a)
  (fun y => AAT y)
  (fun _ _ _ _ _ _ => false)
  (fun a _ y => AKl y a)
  (fun a _ y => AKy y a)
  (fun _ => false)
  (fun _ _ _ _ => false)
  ⟨⟩ (fun _ _ _ _ => ⟨⟩) v
inductive AI where
 | op (o : iY)
 | re (d : P2) (g : Gd) (o : AN)
inductive AC where
 | skip
 | ops (l : List iY)
 | reg (l : List AI)
 | seq (a b : AC)
 | cond (x : X) (a b : AC)
 | block (id : Nat) (c : AC)
 | loop (c : AC)
 | exit (id : Nat)
 | ret
noncomputable def Bd (l : List iY) : oL :=
 List.rec (motive := fun _ => oL) (fun _ _ R H n k => k R H n) (fun o _ g G call R H n k => o.ex G call R H n fun R H n => g G call R H n k) l
abbrev ReT := AP -> RS -> Heap -> P2 -> AN -> Prop -> Prop
noncomputable def AQm : ReT := fun G R H d o k => AU (o.ev G R H) fun v => Gn (Ci v (KD (T.DU d R.rg))) k
noncomputable def ATk (x : X) (b : Bool) : ReT := fun G R H d o k => Xn (x.ev R) b (AU (o.ev G R H) fun v => Gn (Ci v (KD (T.DU d R.rg))) k) k
noncomputable def AMq (g : Gd) : ReT := Gd.rec (motive := fun _ => ReT) AQm ATk g
noncomputable def AI.ex (i : AI) : oL := AI.rec (motive := fun _ => oL) (fun o => o.ex) (fun d g o G _ R H n k => AMq g G R H d o (k R H n)) i
noncomputable def AY (l : List AI) : oL :=
 List.rec (motive := fun _ => oL) (fun _ _ R H n k => k R H n) (fun i _ g G call R H n k => i.ex G call R H n fun R H n => g G call R H n k) l
abbrev KX := Nat -> K
abbrev M := AP -> AQ -> Nat -> FT -> Heap -> Nat -> K -> KX -> K -> Prop
noncomputable def Bz : M := fun _ _ _ R H n k _ _ => k R H n
noncomputable def AJn (l : List iY) : M := fun G call _ R H n k _ _ => Bd l G call (.mk [] R) H n fun E H n => k E.rg H n
noncomputable def AKN (l : List AI) : M := fun G call _ R H n k _ _ => AY l G call (.mk [] R) H n fun E H n => k E.rg H n
noncomputable def AGc (_ _ : AC) (a b : M) : M := fun G call lf R H n k x r => a G call lf R H n (fun R H n => b G call lf R H n k x r) x r
noncomputable def AAw (c : X) (_ _ : AC) (a b : M) : M := fun G call lf R H n k x r => Ac (c.ev (.mk [] R)) true (a G call lf R H n k x r) (b G call lf R H n k x r)
noncomputable def EC (id : Nat) (k : K) (x : KX) : KX := fun i R H n => Bool.rec (motive := fun _ => Prop -> Prop -> Prop) (fun a _ => a) (fun _ b => b) (Nat.beq i id) (x i R H n) (k R H n)
noncomputable def sV (id : Nat) (_ : AC) (a : M) : M := fun G call lf R H n k x r => a G call lf R H n k (EC id k x) r
noncomputable def TS (a : M) (G : AP) (call : AQ) (lf0 lf : Nat) : FT -> Heap -> Nat -> KX -> K -> Prop :=
 Nat.rec (motive := fun _ => FT -> Heap -> Nat -> KX -> K -> Prop) (fun _ _ _ _ _ => False) (fun _ g R H n x r => a G call lf0 R H n (fun R H n => g R H n x r) x r) lf
noncomputable def AP1 (_ : AC) (a : M) : M := fun G call lf R H n _ x r => TS a G call lf lf R H n x r
noncomputable def AIA (id : Nat) : M := fun _ _ _ R H n _ x _ => x id R H n
noncomputable def ANQ : M := fun _ _ _ R H n _ _ r => r R H n
noncomputable def AC.ex (c : AC) : M := AC.rec (motive := fun _ => M) Bz AJn AKN AGc AAw sV AP1 AIA ANQ c
inductive AR where
 | tmp (p : P2) | cell1 (p : P2) | celln (p : P2) (n : Nat)
inductive AF where
 | mk (np : Nat) (code : AC) (res : List AR) (dp : Zn) (dg : Nat)
noncomputable def AR.get (r : AR) : AP -> FT -> Heap -> Option V :=
 AR.rec (motive := fun _ => AP -> FT -> Heap -> Option V) (fun p _ R _ => some (KD (T.DU p R))) (fun p G R H => Ll (lY (KD (T.DU p R)) G H 1) fun L => nth L 0)
  (fun p n G R H => Ll (lY (KD (T.DU p R)) G H n) fun L => some (.agg L)) r
noncomputable def dA (l : List AR) : AP -> FT -> Heap -> Option LV :=
 List.rec (motive := fun _ => AP -> FT -> Heap -> Option LV) (fun _ _ _ => some []) (fun r _ g G R H => BK (r.get G R H) fun v => BK (g G R H) fun vs => some (v :: vs)) l
noncomputable def E8 (l : List V) : V := List.rec (motive := fun _ => V) (V.Gh []) (fun v vs _ => List.rec (motive := fun _ => V) v (fun w ws _ => V.Gh (v :: w :: ws)) vs) l
noncomputable def XA (args : List V) : Nat -> FT -> FT :=
 List.rec (motive := fun _ => Nat -> FT -> FT) (fun _ R => R) (fun v _ g i R => g (Nat.succ i) (T.set R i v)) args
noncomputable def Jf (dg : Nat) (l : List V) : AQ -> Heap -> Nat -> (Heap -> Nat -> Prop) -> Prop :=
 List.rec (motive := fun _ => AQ -> Heap -> Nat -> (Heap -> Nat -> Prop) -> Prop) (fun _ H n k => k H n)
  (fun v _ g call H n k => V.Ru v fun f a c => Gn (Nat.beq f dg) (call f (cat a c) H n fun _ H n => g call H n k)) l
noncomputable def qM (res : List AR) (G : AP) (k : KV) : K := fun R H n => FM (dA res G R H) fun l => k (E8 l) H n
noncomputable def GK (res : List AR) (dg : Nat) (d : Zn) : AP -> AQ -> KV -> K :=
 Zn.rec (motive := fun _ => AP -> AQ -> KV -> K) (fun G _ k => qM res G k) (fun p G call k R H n => Jf dg (bW (KD (T.DU p R))) call H n fun H n => qM res G k R H n) (fun G _ k => qM res G k) d
noncomputable def noX : KX := fun _ _ _ _ => False
noncomputable def gI (f : AF) : AP -> AQ -> Nat -> List V -> Heap -> Nat -> KV -> Prop :=
 AF.rec (motive := fun _ => AP -> AQ -> Nat -> List V -> Heap -> Nat -> KV -> Prop) (fun np code res d dg G call lf args H n k => Gn (Nat.beq (len args) np) (code.ex G call lf (XA args 0 .e) H n (GK res dg d G call k) noX (GK res dg d G call k))) f
noncomputable def run (F : T AF) (G : AP) (lf : Nat) (fuel : Nat) : AQ :=
 Nat.rec (motive := fun _ => AQ) (fun _ _ _ _ _ => False) (fun _ call f args H n k => FM (T.get F f) fun af => gI af G call lf args H n k) fuel
end Go.Eng
