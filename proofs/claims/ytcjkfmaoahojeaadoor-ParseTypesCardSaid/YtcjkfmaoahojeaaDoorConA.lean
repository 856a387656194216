/- Part of a proof: texts PMA PQA PQB PQC PQD PMB PRA PRB PRC PRD PRE PRF PRG of the engine and what is proved with it; nothing is assumed. -/
import Derived.Test.YtcjkfmaoahojeaaDoorWalk
import Derived.Test.YtcjkfmaoahojeaaDoorPlainR
set_option linter.unusedVariables false
set_option linter.unusedSimpArgs false
namespace Go.PQ
open Go.Eng
abbrev Bs := List UInt8
def AA7 : Bs := [97, 115]
def Ru : Bs := [98, 111, 111, 108]
def Iw : Bs := [99, 108, 97, 115, 115]
def AAQ : Bs := [101, 108, 115, 101]
def dI : Bs := [101, 120, 116, 101, 110, 100, 115]
def jK : Bs := [102, 97, 108, 115, 101]
def ND : Bs := [102, 105, 101, 108, 100]
def nK : Bs := [105, 102]
def F5 : Bs := [105, 110, 116]
def pz : Bs := [105, 115]
def kQ : Bs := [108, 101, 110, 103, 116, 104]
def jO : Bs := [108, 101, 116]
def Df : Bs := [109, 101, 116, 104, 111, 100]
def oD : Bs := [110, 101, 119]
def Yt : Bs := [110, 117, 108, 108]
def WX : Bs := [112, 114, 105, 110, 116]
def CY : Bs := [114, 101, 116, 117, 114, 110]
def Ov : Bs := [115, 116, 97, 116, 105, 99]
def rH : Bs := [116, 104, 105, 115]
def VR : Bs := [116, 114, 117, 101]
def QU : Bs := [119, 104, 105, 108, 101]
def YH : Bs := [61, 61]
def kY : Bs := [33, 61]
def kG : Bs := [60, 61]
def kP : Bs := [38, 38]
def ACJ : Bs := [124, 124]
def bP : Bs := [43]
def CO : Bs := [45]
def XL : Bs := [42]
def SA : Bs := [47]
def oZ : Bs := [37]
def Vb : Bs := [60]
def O5 : Bs := [61]
def RJ : Bs := [33]
def IL : Bs := [40]
def Ik : Bs := [41]
def V4 : Bs := [91]
def XC : Bs := [93]
def G5 : Bs := [123]
def m_rc : Bs := [125]
def BQ : Bs := [59]
def OM : Bs := [44]
def ZB : Bs := [46]
theorem AR4 : V.str 2 29537 = sB AA7 := rfl
theorem AC2 : V.str 4 1819242338 = sB Ru := rfl
theorem AIc : V.str 5 495857003619 = sB Iw := rfl
theorem ALm : V.str 4 1702063205 = sB AAQ := rfl
theorem AE0 : V.str 7 32480047633037413 = sB dI := rfl
theorem AJd : V.str 5 435728179558 = sB jK := rfl
theorem AJ8 : V.str 5 431315315046 = sB ND := rfl
theorem AS6 : V.str 2 26217 = sB nK := rfl
theorem AFZ : V.str 3 7630441 = sB F5 := rfl
theorem ATD : V.str 2 29545 = sB pz := rfl
theorem AGL : V.str 6 114849160783212 = sB kQ := rfl
theorem AO0 : V.str 3 7628140 = sB jO := rfl
theorem AHG : V.str 6 110429656606061 = sB Df := rfl
theorem AOU : V.str 3 7824750 = sB oD := rfl
theorem ALE : V.str 4 1819047278 = sB Yt := rfl
theorem AH6 : V.str 5 500068610672 = sB WX := rfl
theorem AHD : V.str 6 121437875889522 = sB CY := rfl
theorem AFx : V.str 6 109304575259763 = sB Ov := rfl
theorem AK7 : V.str 4 1936287860 = sB rH := rfl
theorem AMU : V.str 4 1702195828 = sB VR := rfl
theorem AIf : V.str 5 435610544247 = sB QU := rfl
theorem AS3 : V.str 2 15677 = sB YH := rfl
theorem ATq : V.str 2 15649 = sB kY := rfl
theorem AVK : V.str 2 15676 = sB kG := rfl
theorem AOu : V.str 2 9766 = sB kP := rfl
theorem ARg : V.str 2 31868 = sB ACJ := rfl
theorem ASP : V.str 1 43 = sB bP := rfl
theorem AQ8 : V.str 1 45 = sB CO := rfl
theorem ATC : V.str 1 42 = sB XL := rfl
theorem ARJ : V.str 1 47 = sB SA := rfl
theorem AU7 : V.str 1 37 = sB oZ := rfl
theorem AR9 : V.str 1 60 = sB Vb := rfl
theorem AUM : V.str 1 61 = sB O5 := rfl
theorem AVB : V.str 1 33 = sB RJ := rfl
theorem AVj : V.str 1 40 = sB IL := rfl
theorem AQK : V.str 1 41 = sB Ik := rfl
theorem ATF : V.str 1 91 = sB V4 := rfl
theorem AWy : V.str 1 93 = sB XC := rfl
theorem AWq : V.str 1 123 = sB G5 := rfl
theorem AOl : V.str 1 125 = sB m_rc := rfl
theorem ASv : V.str 1 59 = sB BQ := rfl
theorem ARA : V.str 1 44 = sB OM := rfl
theorem AUA : V.str 1 46 = sB ZB := rfl
theorem AT2 : V.str 0 0 = sB [] := rfl
def PU : List Bs := [AA7, Ru, Iw, AAQ, dI, jK, ND, nK, F5, pz, kQ, jO, Df, oD, Yt, WX, CY, Ov, rH, VR, QU]
def D9 : List Bs := [YH, kY, kG, kP, ACJ, bP, CO, XL, SA, oZ, Vb, O5, RJ, IL, Ik, V4, XC, G5, m_rc, BQ, OM, ZB]
def great (c : UInt8) : Bool := decide (65 <= c.toNat) && decide (c.toNat <= 90)
def small (c : UInt8) : Bool := decide (97 <= c.toNat) && decide (c.toNat <= 122)
def digit (c : UInt8) : Bool := decide (48 <= c.toNat) && decide (c.toNat <= 57)
def inner (c : UInt8) : Bool := great c || (small c || (digit c || decide (c.toNat = 95)))
def blank (c : UInt8) : Bool := decide (c.toNat = 32) || (decide (c.toNat = 9) || (decide (c.toNat = 10) || decide (c.toNat = 13)))
def pre (p l : Bs) : Bool := decide (p.length <= l.length) && decide (l.take p.length = p)
def Bg : Bool -> Bs -> Bs
 | _, [] => []
 | true, c :: t => bif decide (c.toNat = 10) then Bg false t else Bg true t
 | false, c :: t => bif blank c then Bg false t else bif pre [47, 47] (c :: t) then Bg true t else c :: t
structure Tok where
 kind : Nat
 text : Bs
 num : Nat
def FP : Tok := ⟨0, [], 0⟩
def Xn : Nat -> Bs -> Option Nat
 | n, [] => some n
 | n, c :: l => bif decide (288230376151711744 < n * 10 + (c.toNat - 48)) then none else Xn (n * 10 + (c.toNat - 48)) l
def XT (t : Tok) : Nat × Tok := bif decide (40 < t.text.length) then (4, FP) else (0, t)
def F9 : Bs -> Nat × Tok
 | [] => (0, FP)
 | c :: l =>
  bif great c then XT ⟨2, (c :: l).takeWhile inner, 0⟩ else
  bif small c then XT ⟨bif decide ((c :: l).takeWhile inner ∈ PU) then 1 else 3, (c :: l).takeWhile inner, 0⟩ else
  bif digit c then (match Xn 0 ((c :: l).takeWhile digit) with | none => (22, FP) | some n => (0, ⟨4, (c :: l).takeWhile digit, n⟩)) else
  match D9.find? (fun m => pre m (c :: l)) with | none => (20, FP) | some m => (0, ⟨5, m, 0⟩)
def kD : Nat -> Bs -> Nat × List Tok
 | 0, _ => (0, [])
 | f + 1, r =>
  bif decide ((F9 (Bg false r)).1 = 0) then
   bif decide ((F9 (Bg false r)).2.kind = 0) then (0, [(F9 (Bg false r)).2])
   else ((kD f ((Bg false r).drop (F9 (Bg false r)).2.text.length)).1, (F9 (Bg false r)).2 :: (kD f ((Bg false r).drop (F9 (Bg false r)).2.text.length)).2)
  else ((F9 (Bg false r)).1, [])
def vZ (s : Bs) : Nat × List Tok := bif decide (65536 < s.length) then (4, []) else kD (s.length + 1) s
end Go.PQ
namespace Go.PQ
open Go.Eng
set_option maxRecDepth 100000
section
variable {G : AP} {H : Heap} {n : Nat} {k : KV}
theorem ADr {c : UInt8} (hk : k (.bool (great c)) H n) : Runs F G Z9 [.int .u8 (.ofNat c.toNat) 0] H n k := by
 refine BO (s := Dz (SH lfp G)) YT (by obtain ⟨h, o⟩ := lC BP G; rw [YT] at h; cases h; exact o) ?_
 show SH lfp G (Runs F G) (.int .u8 (.ofNat c.toNat) 0) H n k
 delta SH
 unfold great at hk
 simp only [go_sem, ZJ, o9]
 cases h : decide (65 <= c.toNat) <;> rw [h] at hk <;> simp only [go_sem, o9] <;> exact hk
theorem ADy {c : UInt8} (hk : k (.bool (small c)) H n) : Runs F G Zz [.int .u8 (.ofNat c.toNat) 0] H n k := by
 refine BO (s := Dz (TJ lfp G)) Yi (by obtain ⟨h, o⟩ := jL BP G; rw [Yi] at h; cases h; exact o) ?_
 show TJ lfp G (Runs F G) (.int .u8 (.ofNat c.toNat) 0) H n k
 delta TJ
 unfold small at hk
 simp only [go_sem, ZJ, o9]
 cases h : decide (97 <= c.toNat) <;> rw [h] at hk <;> simp only [go_sem, o9] <;> exact hk
theorem yG {c : UInt8} (hk : k (.bool (digit c)) H n) : Runs F G WO [.int .u8 (.ofNat c.toNat) 0] H n k := by
 refine BO (s := Dz (SX lfp G)) YI (by obtain ⟨h, o⟩ := kT BP G; rw [YI] at h; cases h; exact o) ?_
 show SX lfp G (Runs F G) (.int .u8 (.ofNat c.toNat) 0) H n k
 delta SX
 unfold digit at hk
 simp only [go_sem, ZJ, o9]
 cases h : decide (48 <= c.toNat) <;> rw [h] at hk <;> simp only [go_sem, o9] <;> exact hk
theorem ADT {c : UInt8} (hk : k (.bool (inner c)) H n) : Runs F G aU [.int .u8 (.ofNat c.toNat) 0] H n k := by
 refine BO (s := Dz (Tv lfp G)) Yw (by obtain ⟨h, o⟩ := kE BP G; rw [Yw] at h; cases h; exact o) ?_
 show Tv lfp G (Runs F G) (.int .u8 (.ofNat c.toNat) 0) H n k
 delta Tv
 unfold inner at hk
 refine ADr ?_
 cases h1 : great c with
 | true => rw [h1] at hk; simp only [go_sem]; exact hk
 | false =>
  rw [h1] at hk; simp only [go_sem]
  refine ADy ?_
  cases h2 : small c with
  | true => rw [h2] at hk; simp only [go_sem]; exact hk
  | false =>
   rw [h2] at hk; simp only [go_sem]
   refine yG ?_
   cases h3 : digit c with
   | true => rw [h3] at hk; simp only [go_sem]; exact hk
   | false => rw [h3] at hk; simp only [go_sem, Xq]; exact hk
theorem oI {p l : Bs} (hk : k (.bool (pre p l)) H n) : Runs F G J8 [sB l, sB p] H n k := by
 refine BO (s := UA (IG lfp G)) Nj (by obtain ⟨h, o⟩ := TS BP G; rw [Nj] at h; cases h; exact o) ?_
 show IG lfp G (Runs F G) (sB l) (sB p) H n k
 delta IG
 refine BO (s := UA (Cm lfp G)) Eo (by obtain ⟨h, o⟩ := JF BP G; rw [Eo] at h; cases h; exact o) ?_
 show Cm lfp G (Runs F G) (sB l) (sB p) H n k
 delta Cm
 unfold pre at hk
 simp only [go_sem, aj, ZJ]
 cases h : decide (p.length <= l.length) with
 | true =>
  have hle := of_decide_eq_true h
  rw [h] at hk; simp only [go_sem, aj, ASz hle, AE9]; exact hk
 | false => rw [h] at hk; simp only [go_sem]; exact hk
theorem ABa {l : Bs} {b : Nat} (hb : b < 256) (hk : k (.int .i64 (kJ b l 0) 0) H n) : Runs F G Oh [sB l, .int .u8 (.ofNat b) 0] H n k := by
 refine BO (s := UA (G9 lfp G)) Nw (by obtain ⟨h, o⟩ := Td BP G; rw [Nw] at h; cases h; exact o) ?_
 show G9 lfp G (Runs F G) (sB l) (.int .u8 (.ofNat b) 0) H n k
 delta G9
 refine BO (s := UA (DF lfp G)) Ep (by obtain ⟨h, o⟩ := JB BP G; rw [Ep] at h; cases h; exact o) ?_
 show DF lfp G (Runs F G) (sB l) (.int .u8 (.ofNat b) 0) H n k
 delta DF
 simp only [go_sem, ATR hb]
 exact hk
theorem AJL {l : Bs} (hk : k (.bool (decide (l ∈ PU))) H n) : Runs F G pV [sB l] H n k := by
 refine BO (s := Dz (SY lfp G)) YZ (by obtain ⟨h, o⟩ := iw BP G; rw [YZ] at h; cases h; exact o) ?_
 show SY lfp G (Runs F G) (sB l) H n k
 delta SY
 have e : decide (l ∈ PU) = PU.any fun w => decide (l = w) := by rw [Bool.eq_iff_iff]; simp
 rw [e] at hk
 unfold PU at hk
 simp only [AR4, AC2, AIc, ALm, AE0, AJd, AJ8, AS6, AFZ, ATD, AGL, AO0, AHG, AOU, ALE, AH6, AHD, AFx, AK7, AMU, AIf]
 have fin : ∀ b : Bool, k (.bool b) H n -> BF lfp G (Runs F G) k (.bool b) H n := by
  intro b hb
  delta BF
  cases b <;> exact hb
 repeat' (
  rw [AE9, BH]
  rw [List.any_cons] at hk
  refine (fun (b : Bool) (P Q : Prop) (h1 : b = true -> P) (h2 : b = false -> Q) => (by cases b; exact h2 rfl; exact h1 rfl : Ac (.bool b) true P Q)) _ _ _ (fun hb => ?_) (fun hb => ?_)
  ·rw [hb] at hk; first | (rw [hb]; exact fin _ hk) | exact hk
  rw [hb, Bool.false_or] at hk)
 exact hk
theorem AER {a b : Nat} (h : a * b < 9223372036854775808) : B2.ev .mul (.int .i64 (.ofNat a) 0) (.int .i64 (.ofNat b) 0) = some (.int .i64 (.ofNat (a * b)) 0) := by
 show some (V.int .i64 (PY .i64 (Int.mul (.ofNat a) (.ofNat b))) 0) = _
 have e : Int.mul (.ofNat a) (.ofNat b) = .ofNat (a * b) := rfl
 rw [Qh, e, VG (by show (-9223372036854775808 : Int) <= ((a * b : Nat) : Int); omega) (by show ((a * b : Nat) : Int) < _; omega)]
theorem ANI {a b : Nat} (hb : b <= a) (h : a < 256) : B2.ev .sub (.int .u8 (.ofNat a) 0) (.int .u8 (.ofNat b) 0) = some (.int .u8 (.ofNat (a - b)) 0) := by
 show some (V.int .u8 (PY .u8 (vT (.ofNat a) (Int.neg (.ofNat b)))) 0) = _
 rw [dQ]
 have e : Int.ofNat a + Int.neg (Int.ofNat b) = Int.ofNat (a - b) := by show (a : Int) + -(b : Int) = ((a - b : Nat) : Int); omega
 rw [e]
 have : inr .u8 (.ofNat (a - b)) = true := by show Nat.blt (a - b) 256 = true; rw [Nat.blt_eq]; omega
 unfold PY; rw [this]
theorem AHd {q : IntKind} {a : Nat} (h : a < 9223372036854775808) : V6 .i64 (.int q (.ofNat a) 0) = some (.int .i64 (.ofNat a) 0) := by
 show some (V.int .i64 (PY .i64 (.ofNat a)) 0) = _
 rw [Qh, VG (by show (-9223372036854775808 : Int) <= ((a : Nat) : Int); omega) (by show ((a : Nat) : Int) < _; omega)]
def ALZ : Option Nat -> V
 | none => .GK [.int .i64 (.ofNat 0) 0, .bool false]
 | some m => .GK [.int .i64 (.ofNat m) 0, .bool true]
theorem AE6 {l : Bs} {i : Nat} (h : i < l.length) : (MN l)[i]? = some [V.int .u8 (.ofNat (l[i]).toNat) 0] := by simp [MN, h]
theorem AGX {l : Bs} (hl : ∀ c ∈ l, digit c = true) (hs : l.length <= 65536) (hk : ∀ H', Kp H n H' (n + 1) -> k (ALZ (Xn 0 l)) H' (n + 1)) : Runs F G jD [sB l] H n k := by
 refine BO (s := Dz (QN lfp G)) XG (by obtain ⟨h, o⟩ := fD BP G; rw [XG] at h; cases h; exact o) ?_
 show QN lfp G (Runs F G) (sB l) H n k
 delta QN
 obtain ⟨R, hR⟩ : ∃ R, Xn 0 l = R := ⟨_, rfl⟩
 rw [hR] at hk
 refine AJ3 (G := G) fun H1 v f1 hv => ?_
 simp only [go_sem, hv.len, show (MN l).length = l.length from List.length_map ..]
 refine VF (N := l.length) (J := fun j q => ∃ a, q = (.int .i64 (.ofNat a) 0, v, .int .i64 (.ofNat l.length) 0, .int .i64 (.ofNat j) 0, H1, n + 1) /\ a <= 288230376151711744 /\ Xn a (l.drop j) = R) ?_ ?_ ⟨0, rfl, by omega, hR⟩
 ·rintro I j q hlt ⟨a, rfl, ha, he⟩ ih
  show Lj lfp G (Runs F G) k I (.int .i64 (.ofNat a) 0) v (.int .i64 (.ofNat l.length) 0) (.int .i64 (.ofNat j) 0) H1 (n + 1)
  delta Lj
  obtain ⟨p, hp, hld⟩ := hv.at (AE6 hlt)
  rw [List.drop_eq_getElem_cons hlt] at he
  have hd := hl _ (List.getElem_mem hlt)
  generalize l[j] = c at hld he hd
  simp only [digit, Bool.and_eq_true, decide_eq_true_eq] at hd
  unfold Xn at he
  simp only [go_sem, Q8, hlt, decide_true, hp, Y0 hld, AER (show a * 10 < 9223372036854775808 by omega), ANI hd.1 (show c.toNat < 256 by omega), AHd (show c.toNat - 48 < 9223372036854775808 by omega), Kq (show a * 10 + (c.toNat - 48) < 9223372036854775808 by omega), jm]
  cases h : decide (288230376151711744 < a * 10 + (c.toNat - 48)) with
  | true => rw [h] at he; simp only [go_sem]; have := hk _ f1; rw [<- he] at this; exact this
  | false =>
   rw [h] at he; simp only [go_sem, Kq (show j + 1 < 9223372036854775808 by omega)]
   exact ih _ ⟨_, rfl, by simpa using h, he⟩
 ·rintro I q ⟨a, rfl, ha, he⟩
  show Lj lfp G (Runs F G) k I (.int .i64 (.ofNat a) 0) v (.int .i64 (.ofNat l.length) 0) (.int .i64 (.ofNat l.length) 0) H1 (n + 1)
  delta Lj
  rw [List.drop_eq_nil_of_le (Nat.le_refl _)] at he
  simp only [go_sem, Q8, Nat.lt_irrefl, decide_false]
  delta UM
  have := hk _ f1
  rw [<- he] at this
  exact this
end
end Go.PQ
namespace Go.PQ
open Go.Eng
set_option maxRecDepth 100000
def LAt (H : Heap) (lb : Nat) (s : Bs) (a : Nat) : Prop := ∃ line col : Nat, 1 <= line /\ 1 <= col /\ line <= a + 1 /\ col <= a + 1 /\
 T.get H lb = some (one [sB s, .int .i64 (.ofNat a) 0, .int .i64 (.ofNat line) 0, .int .i64 (.ofNat col) 0])
theorem AGz (q r : IntKind) (a b : Int) (z w : V) : BZ [z, w] [(0, 1, .c (.int q a 0)), (1, 1, .c (.int r b 0))] = some (.agg [.int q a 0, .int r b 0]) := rfl
section
variable {G : AP} {H : Heap} {n lb a : Nat} {s : Bs} {k : KV}
theorem LAt.kp {H' : Heap} {n' : Nat} (h : LAt H lb s a) (hl : lb < n) (f : Kp H n H' n') : LAt H' lb s a := by
 obtain ⟨line, col, h1, h2, h3, h4, hg⟩ := h
 exact ⟨line, col, h1, h2, h3, h4, f.get hg hl⟩
theorem ACI {m : Nat} (h : LAt H lb s a) (hm : a + m <= s.length) (hs : s.length <= 65536) (hk : ∀ H', Kx lb H n H' n -> LAt H' lb s (a + m) -> k (.GK []) H' n) :
    Runs F G Ih [.ptr lb 0, .int .i64 (.ofNat m) 0] H n k := by
  refine BO (s := UA (KW lfp G)) QZ (by obtain ⟨h, o⟩ := V8 BP G; rw [QZ] at h; cases h; exact o) ?_
  show KW lfp G (Runs F G) (.ptr lb 0) (.int .i64 (.ofNat m) 0) H n k
  delta KW
  refine VF (N := m) (J := fun j q => ∃ H', q = (.ptr lb 0, .int .i64 (.ofNat m) 0, .int .i64 (.ofNat j) 0, H', n) /\ Kx lb H n H' n /\ LAt H' lb s (a + j)) ?_ ?_ ⟨H, rfl, Kx.refl .., h⟩
  · rintro I j q hlt ⟨H1, rfl, f1, line, col, h1, h2, h3, h4, hg⟩ ih
    show IJ lfp G (Runs F G) k I (.ptr lb 0) (.int .i64 (.ofNat m) 0) (.int .i64 (.ofNat j) 0) H1 n
    delta IJ
    simp only [go_sem, Q8, hlt, decide_true, Nat.reduceAdd, Ad (off := 3) hg (v := .int .i64 (.ofNat col) 0) rfl, Kq (show col + 1 < 9223372036854775808 by omega)]
    refine Dp hg rfl rfl (by omega) (by show 3 + 1 <= 4; omega) fun H2 hg2 s2 => ?_
    have hg2 : T.get H2 lb = some (one [sB s, .int .i64 (.ofNat (a + j)) 0, .int .i64 (.ofNat line) 0, .int .i64 (.ofNat (col + 1)) 0]) := hg2
    simp only [go_sem, Nat.reduceAdd, Ad (off := 0) hg2 (v := sB s) rfl, Ad (off := 1) hg2 (v := .int .i64 (.ofNat (a + j)) 0) rfl, xg (show a + j < s.length by omega), Xq]
    have f2 : Kx lb H n H2 n := f1.trans ⟨Nat.le_refl _, fun id _ hb => s2 id hb⟩
    have fin : ∀ (H3 : Heap) (line col : Nat), Kx lb H n H3 n -> 1 <= line -> 1 <= col -> line <= a + j + 2 -> col <= a + j + 2 ->
        T.get H3 lb = some (one [sB s, .int .i64 (.ofNat (a + j)) 0, .int .i64 (.ofNat line) 0, .int .i64 (.ofNat col) 0]) ->
        Gj lfp G (Runs F G) k I (.ptr lb 0) (.int .i64 (.ofNat m) 0) (.int .i64 (.ofNat j) 0) H3 n := by
      intro H3 line col f3 h1 h2 h3 h4 hg3
      delta Gj
      simp only [go_sem, Nat.reduceAdd, Ad (off := 1) hg3 (v := .int .i64 (.ofNat (a + j)) 0) rfl, Kq (show a + j + 1 < 9223372036854775808 by omega)]
      refine Dp hg3 rfl rfl (by omega) (by show 1 + 1 <= 4; omega) fun H4 hg4 s4 => ?_
      simp only [go_sem, Kq (show j + 1 < 9223372036854775808 by omega)]
      exact ih _ ⟨_, rfl, f3.trans ⟨Nat.le_refl _, fun id _ hb => s4 id hb⟩, line, col, h1, h2, by omega, by omega, hg4⟩
    cases hc : decide ((s[a + j]).toNat = 10) with
    | true =>
      simp only [go_sem, Nat.reduceAdd, Ad (off := 2) hg2 (v := .int .i64 (.ofNat line) 0) rfl, Kq (show line + 1 < 9223372036854775808 by omega), AGz]
      refine Dp hg2 rfl rfl (by omega) (by show 2 + 2 <= 4; omega) fun H3 hg3 s3 => ?_
      exact fin H3 (line + 1) 1 (f2.trans ⟨Nat.le_refl _, fun id _ hb => s3 id hb⟩) (by omega) (by omega) (by omega) (by omega) hg3
    | false =>
      simp only [go_sem]
      exact fin H2 line (col + 1) f2 (by omega) (by omega) (by omega) (by omega) hg2
  · rintro I q ⟨H1, rfl, f1, h⟩
    show IJ lfp G (Runs F G) k I (.ptr lb 0) (.int .i64 (.ofNat m) 0) (.int .i64 (.ofNat m) 0) H1 n
    delta IJ
    simp only [go_sem, Q8, Nat.lt_irrefl, decide_false]
    exact hk _ f1 h
def toEnd : Bs -> Nat
 | [] => 0
 | c :: l => bif decide (c.toNat = 10) then 0 else toEnd l + 1
theorem AAw : ∀ l : Bs, toEnd l <= l.length
 | [] => Nat.le_refl _
 | c :: l => by
  have := AAw l
  unfold toEnd
  cases decide (c.toNat = 10) <;> simp [this]
theorem xO : ∀ (l : Bs) (i : Nat), kJ 10 l i = if toEnd l = l.length then -1 else ((i + toEnd l : Nat) : Int)
 | [], i => rfl
 | c :: l, i => by
  have ih := xO l (i + 1)
  rw [show kJ 10 (c :: l) i = bif decide (c.toNat = 10) then .ofNat i else kJ 10 l (i + 1) from rfl, show toEnd (c :: l) = bif decide (c.toNat = 10) then 0 else toEnd l + 1 from rfl]
  cases h : decide (c.toNat = 10) with
  | true => simp
  | false =>
   simp only [cond_false, ih, List.length_cons, Nat.add_right_cancel_iff]
   split
   ·rfl
   ·congr 1; omega
theorem ABO : ∀ l : Bs, Bg true l = Bg false (l.drop (toEnd l))
 | [] => rfl
 | c :: l => by
  rw [show Bg true (c :: l) = bif decide (c.toNat = 10) then Bg false l else Bg true l from rfl, show toEnd (c :: l) = bif decide (c.toNat = 10) then 0 else toEnd l + 1 from rfl]
  cases h : decide (c.toNat = 10) with
  | true =>
   have hb : blank c = true := by simp only [blank, h, Bool.or_true, Bool.true_or]
   simp [Bg, hb]
  | false => simp only [cond_false, List.drop_succ_cons]; exact ABO l
theorem Zq : ∀ (b : Bool) (l : Bs), (Bg b l).length <= l.length
 | _, [] => by simp [Bg]
 | true, c :: l => by
  rw [show Bg true (c :: l) = bif decide (c.toNat = 10) then Bg false l else Bg true l from rfl]
  have h1 := Zq false l; have h2 := Zq true l
  cases decide (c.toNat = 10) <;> simp <;> omega
 | false, c :: l => by
  rw [show Bg false (c :: l) = bif blank c then Bg false l else bif pre [47, 47] (c :: l) then Bg true l else c :: l from rfl]
  have h1 := Zq false l; have h2 := Zq true l
  cases blank c <;> cases pre [47, 47] (c :: l) <;> simp <;> omega
theorem AQP : V.str 2 12079 = sB [47, 47] := rfl
theorem ALv (h : LAt H lb s a) (ha : a <= s.length) (hs : s.length <= 65536) (hk : ∀ H' a', Kx lb H n H' n -> LAt H' lb s a' -> a' <= s.length -> s.drop a' = Bg false (s.drop a) -> k (.GK []) H' n) :
    Runs F G Xp [.ptr lb 0] H n k := by
  refine BO (s := Dz (KT lfp G)) QK (by obtain ⟨h, o⟩ := WZ BP G; rw [QK] at h; cases h; exact o) ?_
  show KT lfp G (Runs F G) (.ptr lb 0) H n k
  delta KT
  obtain ⟨R, hR⟩ : ∃ R, Bg false (s.drop a) = R := ⟨_, rfl⟩
  rw [hR] at hk
  refine KY (J := fun m q => ∃ H' a', m = s.length - a' /\ q = (.ptr lb 0, H', n) /\ Kx lb H n H' n /\ LAt H' lb s a' /\ a' <= s.length /\ Bg false (s.drop a') = R) ?_ (m := s.length - a) ⟨H, a, rfl, rfl, Kx.refl .., h, ha, hR⟩
  rintro I m q ⟨H1, b, rfl, rfl, f1, h1, hb, hR⟩ ih
  show Ob lfp G (Runs F G) k I (.ptr lb 0) H1 n
  delta Ob
  obtain ⟨line, col, _, _, _, _, hg⟩ := id h1
  have e0 : Aa (.ptr lb 0) G H1 = some (sB s) := Ad hg rfl
  have e1 : Aa (.ptr lb 1) G H1 = some (.int .i64 (.ofNat b) 0) := Ad hg rfl
  simp only [go_sem, Nat.reduceAdd, e0, e1, aj, Q8]
  rcases Nat.lt_or_ge b s.length with hlt | hge
  · simp only [hlt, decide_true, go_sem, Nat.reduceAdd, e0, e1, xg hlt, Xq]
    have hR' := hR
    rw [List.drop_eq_getElem_cons hlt, show ∀ (c : UInt8) (l : Bs), Bg false (c :: l) = bif blank c then Bg false l else bif pre [47, 47] (c :: l) then Bg true l else c :: l from fun _ _ => rfl, <- List.drop_eq_getElem_cons hlt] at hR'
    have step1 : blank s[b] = true -> Runs F G Ih [.ptr lb 0, .int .i64 (.ofNat 1) 0] H1 n fun _ H n => I (.ptr lb 0, H, n) := by
      intro hbl
      rw [hbl] at hR'
      refine ACI h1 (by omega) hs fun H2 f2 h2 => ih (s.length - (b + 1)) _ (by omega) ⟨H2, b + 1, rfl, rfl, f1.trans f2, h2, by omega, hR'⟩
    have fin : ∀ m', b + m' <= s.length -> 0 < m' -> Bg false (s.drop (b + m')) = R -> D6 lfp G (Runs F G) k I (.ptr lb 0) (.int .i64 (.ofNat m') 0) H1 n := by
      intro m' h2 h3 h4
      delta D6
      exact ACI h1 h2 hs fun H2 f2 h2 => ih (s.length - (b + m')) _ (by omega) ⟨H2, b + m', rfl, rfl, f1.trans f2, h2, by omega, h4⟩
    have step2 : blank s[b] = false -> Runs F G J8 [sB (s.drop b), sB [47, 47]] H1 n fun v35 H n => Ac v35 true (AU (A8 (.ptr lb 0)) fun v36=>
        AU (AX 0 v36) fun v37=> AU (Aa v37 G H) fun v38=> AU (A8 (.ptr lb 0)) fun v39=> AU (AX 1 v39) fun v40=> AU (Aa v40 G H) fun v41=> AU (RF v38 E0 (some (.c v41)) none) fun v42=>
        Runs F G Oh [v42, (.int .u8 (.ofNat 10) 0)] H n fun v43 H n=>
        AU (B2.ev .lss v43 (.int .i64 (.ofNat 0) 0)) fun v46=>
        Ac v46 true (AU (A8 (.ptr lb 0)) fun v47=> AU (AX 0 v47) fun v48=> AU (Aa v48 G H) fun v49=> AU (V9 v49) fun v50=> AU (A8 (.ptr lb 0)) fun v51=> AU (AX 1 v51) fun v52=> AU (Aa v52 G H) fun v53=>
        AU (B2.ev .sub v50 v53) fun v54=> D6 lfp G (Runs F G) k I (.ptr lb 0) v54 H n) (D6 lfp G (Runs F G) k I (.ptr lb 0) v43 H n)) (k (.GK []) H n) := by
      intro hbl
      rw [hbl] at hR'
      refine oI ?_
      cases hp : pre [47, 47] (s.drop b) with
      | false =>
        rw [hp] at hR'
        simp only [go_sem]
        exact hk _ _ f1 h1 hb hR'
      | true =>
        rw [hp, cond_false, cond_true, ABO, List.drop_drop] at hR'
        have hne : (s[b]).toNat ≠ 10 := by
          intro e
          simp [blank, e] at hbl
        simp only [go_sem, Nat.reduceAdd, e0, e1, ADB hb]
        refine ABa (by omega) ?_
        have hte : toEnd (s.drop b) = toEnd (s.drop (b + 1)) + 1 := by
          rw [List.drop_eq_getElem_cons hlt, show toEnd (s[b] :: s.drop (b + 1)) = bif decide ((s[b]).toNat = 10) then 0 else toEnd (s.drop (b + 1)) + 1 from rfl, decide_eq_false hne]; rfl
        have hle := AAw (s.drop b)
        rw [xO]
        rw [List.length_drop] at hle ⊢
        rw [show b + 1 + toEnd (s.drop (b + 1)) = b + toEnd (s.drop b) by omega] at hR'
        split
        · rename_i he
          have e : B2.ev .lss (.int .i64 (-1) 0) (.int .i64 (.ofNat 0) 0) = some (.bool true) := rfl
          simp only [go_sem, e, Nat.reduceAdd, e0, e1, aj, xE hb (show s.length < 9223372036854775808 by omega)]
          rw [he] at hR'
          exact fin _ (by omega) (by omega) hR'
        · rw [Nat.zero_add]
          have e : B2.ev .lss (.int .i64 ((toEnd (s.drop b) : Nat) : Int) 0) (.int .i64 (.ofNat 0) 0) = some (.bool false) := by
            refine (Q8 .i64 _ _).trans ?_
            simp
          simp only [go_sem, e]
          exact fin (toEnd (s.drop b)) (by omega) (by omega) hR'
    cases c1 : decide ((s[b]).toNat = 32) with
    | true => simp only [go_sem]; exact step1 (by simp [blank, c1])
    | false =>
      simp only [go_sem, Xq]
      cases c2 : decide ((s[b]).toNat = 9) with
      | true => simp only [go_sem]; exact step1 (by simp [blank, c2])
      | false =>
        simp only [go_sem, Xq]
        cases c3 : decide ((s[b]).toNat = 10) with
        | true => simp only [go_sem]; exact step1 (by simp [blank, c3])
        | false =>
          simp only [go_sem, Xq]
          cases c4 : decide ((s[b]).toNat = 13) with
          | true => simp only [go_sem]; exact step1 (by simp [blank, c4])
          | false =>
            simp only [go_sem, Nat.reduceAdd, e0, e1, ADB hb, AQP]
            exact step2 (by simp [blank, c1, c2, c3, c4])
  · have : b = s.length := by omega
    subst this
    simp only [Nat.lt_irrefl, decide_false, go_sem]
    rw [List.drop_eq_nil_of_le (Nat.le_refl _), show Bg false [] = [] from rfl] at hR
    exact hk _ _ f1 h1 (Nat.le_refl _) (by rw [List.drop_eq_nil_of_le (Nat.le_refl _)]; exact hR)
theorem ABx (g : UInt8 -> Bool) : ∀ l : Bs, (l.takeWhile g).length <= l.length
 | [] => Nat.le_refl _
 | c :: l => by have := ABx g l; rw [List.takeWhile_cons]; split <;> simp <;> omega
theorem ADc (g : UInt8 -> Bool) : ∀ l : Bs, l.take (l.takeWhile g).length = l.takeWhile g
  | [] => rfl
  | c :: l => by rw [List.takeWhile_cons]; split; · simp [ADc g l]
                 · rfl
def ALr (G : AP) (f : Nat) (g : UInt8 -> Bool) : Prop := ∀ (c : UInt8) (H : Heap) (n : Nat) (k : KV), k (.bool (g c)) H n -> Runs F G f [.int .u8 (.ofNat c.toNat) 0] H n k
theorem AGK {f : Nat} {g : UInt8 -> Bool} (hf : ALr G f g) (h : LAt H lb s a) (ha : a <= s.length) (hs : s.length <= 65536) (hk : k (sB ((s.drop a).takeWhile g)) H n) :
    Runs F G PD [.ptr lb 0, .fn f [] []] H n k := by
  refine BO (s := UA (MC lfp G)) Rw (by obtain ⟨h, o⟩ := Xu BP G; rw [Rw] at h; cases h; exact o) ?_
  show MC lfp G (Runs F G) (.ptr lb 0) (.fn f [] []) H n k
  delta MC
  obtain ⟨line, col, _, _, _, _, hg⟩ := id h
  have e0 : Aa (.ptr lb 0) G H = some (sB s) := Ad hg rfl
  have e1 : Aa (.ptr lb 1) G H = some (.int .i64 (.ofNat a) 0) := Ad hg rfl
  refine KY (J := fun m q => ∃ j, m = s.length - (a + j) /\ q = (.ptr lb 0, .fn f [] [], .int .i64 (.ofNat j) 0, H, n) /\ a + j <= s.length /\ j + ((s.drop (a + j)).takeWhile g).length = ((s.drop a).takeWhile g).length) ?_ (m := s.length - a)
    ⟨0, rfl, rfl, ha, by simp⟩
  rintro I m q ⟨j, rfl, rfl, hj, he⟩ ih
  show Ol lfp G (Runs F G) k I (.ptr lb 0) (.fn f [] []) (.int .i64 (.ofNat j) 0) H n
  delta Ol
  have fin : j = ((s.drop a).takeWhile g).length -> LG lfp G (Runs F G) k (.ptr lb 0) (.int .i64 (.ofNat j) 0) H n := by
    intro hj2
    delta LG
    simp only [go_sem, Nat.reduceAdd, e0, e1, Kq (show a + j < 9223372036854775808 by omega), AHh (show a <= a + j by omega) hj]
    rw [show a + j - a = j by omega, hj2, ADc]
    exact hk
  simp only [go_sem, Nat.reduceAdd, e0, e1, aj, Kq (show a + j < 9223372036854775808 by omega), Q8]
  rcases Nat.lt_or_ge (a + j) s.length with hlt | hge
  · simp only [hlt, decide_true, go_sem, Nat.reduceAdd, e0, e1, Kq (show a + j < 9223372036854775808 by omega), xg hlt, dW]
    rw [List.drop_eq_getElem_cons hlt, List.takeWhile_cons] at he
    refine hf _ _ _ _ ?_
    cases hc : g s[a + j] with
    | true =>
      rw [hc] at he
      simp only [go_sem, Kq (show j + 1 < 9223372036854775808 by omega)]
      exact ih (s.length - (a + (j + 1))) _ (by omega) ⟨j + 1, rfl, rfl, by omega, by rw [show a + (j + 1) = a + j + 1 by omega, <- he]; simp; omega⟩
    | false =>
      rw [hc] at he
      simp only [go_sem]
      exact fin (by simpa using he)
  · have : ¬ a + j < s.length := by omega
    simp only [this, decide_false, go_sem]
    rw [List.drop_eq_nil_of_le hge] at he
    exact fin (by simpa using he)
end
end Go.PQ
namespace Go.PQ
open Go.Eng
set_option maxRecDepth 100000
def Pv (t : Tok) (line col : Nat) : LV := [.int .i64 (.ofNat t.kind) 0, sB t.text, .int .i64 (.ofNat t.num) 0, .int .i64 (.ofNat line) 0, .int .i64 (.ofNat col) 0]
def mF (t : Tok) : Nat × Tok := bif decide (t.kind = 0) then (20, FP) else bif decide (40 < t.text.length) && !decide (t.kind = 4) then (4, FP) else (0, t)
def TA (G : AP) : Prop := G 0 0 22 = some (D9.map sB)
def AAj (k : KV) (H : Heap) (n lb : Nat) (s : Bs) (a : Nat) (r : Nat × Tok) : Prop := ∀ (H' : Heap) (n' : Nat) (c : LV), Kx lb H n H' n' -> LAt H' lb s (a + r.2.text.length) -> c.length = 5 -> (r.1 = 0 -> ∃ line col, 1 <= line /\ 1 <= col /\ c = Pv r.2 line col) ->
 k (.GK [.agg c, .int .i64 (.ofNat r.1) 0]) H' n'
section
variable {G : AP} {H : Heap} {n lb a : Nat} {s : Bs} {k : KV}
theorem zT {z0 z1 z2 z3 z4 : V} : BZ [z0, z1, z2, z3, z4] [] = some (.agg [z0, z1, z2, z3, z4]) := rfl
theorem AIn {z0 z1 z2 z3 z4 a b : V} : BZ [z0, z1, z2, z3, z4] [(3, 2, .c (.agg [a, b]))] = some (.agg [z0, z1, z2, a, b]) := rfl
theorem AA1 {H0 : Heap} {n0 p q : Nat} {t : Tok} {line col : Nat} {z0 z1 z2 z3 z4 : V} (f0 : Kx lb H0 n0 H n) (hp : T.get H p = some (one [z0, z1, z2, z3, z4])) (hq : T.get H q = some (one (Pv t line col))) (hpq : p ≠ q) (hpl : p ≠ lb) (hql : q ≠ lb)
    (hp0 : n0 <= p) (hpn : p < n) (hqn : q < n) (h : LAt H lb s a) (ha : a + t.text.length <= s.length) (hs : s.length <= 65536) (h1 : 1 <= line) (h2 : 1 <= col) (hk : AAj k H0 n0 lb s a (mF t)) :
    CW lfp G (Runs F G) k (.ptr lb 0) (.ptr p 0) (.ptr q 0) H n := by
  delta CW
  have q0 : Aa (.ptr q 0) G H = some (.int .i64 (.ofNat t.kind) 0) := Ad hq rfl
  have q1 : Aa (.ptr q 1) G H = some (sB t.text) := Ad hq rfl
  unfold mF at hk
  simp only [go_sem, Nat.reduceAdd, q0, Xq]
  have zz : ∀ e : Nat, AAj k H0 n0 lb s a (e, FP) -> e ≠ 0 -> Bd 5 (.ptr p 0) (.agg [.int .i64 (.ofNat 0) 0, .str 0 0, .int .i64 (.ofNat 0) 0, .int .i64 (.ofNat 0) 0, .int .i64 (.ofNat 0) 0]) H n fun _ H n =>
      Es (BN [.cn (.ptr p 0) 5, .t (.int .i64 (.ofNat e) 0)] G H) fun l => k (Eh l) H n := by
    intro e hk he
    rw [U0 (m := 5) hp (by omega) rfl rfl, BI (m := 5) (T.Ap ..) (by omega) rfl]
    simp only [go_sem]
    obtain ⟨line, col, x1, x2, x3, x4, hg⟩ := h
    refine hk _ _ _ ⟨f0.le, fun id hid hb => ?_⟩ ⟨line, col, x1, x2, x3, x4, ?_⟩ rfl (fun h => absurd h he)
    · rw [T.Am _ _ (by omega)]; exact f0.same id hid hb
    · rw [T.Am _ _ hpl]; exact hg
  cases c1 : decide (t.kind = 0) with
  | true =>
    rw [c1] at hk
    simp only [go_sem, zT]
    exact zz 20 hk (by omega)
  | false =>
    rw [c1] at hk
    simp only [go_sem, Nat.reduceAdd, q1, aj, jm]
    have fin : AAj k H0 n0 lb s a (0, t) -> Runs F G Ih [.ptr lb 0, .int .i64 (.ofNat t.text.length) 0] H n fun _ H n => AU (Az 5 (.ptr q 0) G H) fun v45 =>
        Bd 5 (.ptr p 0) v45 H n fun v46 H n => Es (BN [.cn (.ptr p 0) 5, .t (.int .i64 (.ofNat 0) 0)] G H) fun l => k (Eh l) H n := by
      intro hk
      refine ACI h ha hs fun H2 f2 h2 => ?_
      have hq2 : T.get H2 q = _ := f2.get hq hqn hql
      have hp2 : T.get H2 p = _ := f2.get hp hpn hpl
      rw [Au (m := 5) hq2 (by omega) rfl, BH, U0 (m := 5) hp2 (by omega) rfl rfl, BI (m := 5) (T.Ap ..) (by omega) rfl]
      simp only [go_sem]
      have f3 := f0.trans f2
      obtain ⟨l1, c1, x1, x2, x3, x4, hg⟩ := h2
      refine hk _ _ _ ⟨f3.le, fun id hid hb => ?_⟩ ⟨l1, c1, x1, x2, x3, x4, ?_⟩ rfl fun _ => ⟨line, col, h1, h2, rfl⟩
      · rw [T.Am _ _ (by omega)]; exact f3.same id hid hb
      · rw [T.Am _ _ hpl]; exact hg
    cases c2 : decide (40 < t.text.length) with
    | false =>
      rw [c2] at hk
      simp only [go_sem, Nat.reduceAdd, q1, aj]
      exact fin hk
    | true =>
      rw [c2] at hk
      simp only [go_sem, Nat.reduceAdd, q0, eG]
      cases c3 : decide (t.kind = 4) with
      | true =>
        rw [c3] at hk
        simp only [Bool.not_true, go_sem, Nat.reduceAdd, q1, aj]
        exact fin hk
      | false =>
        rw [c3] at hk
        simp only [Bool.not_false, go_sem, zT]
        exact zz 4 hk (by omega)
theorem Je {m o id : Nat} {L : LV} (h : T.get H id = some (one L)) (hm : 0 < m) (hl : o + m <= L.length) : Az m (.ptr id o) G H = some (.agg ((L.drop o).take m)) := AD2 h hm hl
theorem AL1 (hG : TA G) (h : LAt H lb s a) (ha : a <= s.length) (hs : s.length <= 65536) (hlb : lb < n) (hk : AAj k H n lb s a (F9 (s.drop a))) :
    Runs F G Xb [.ptr lb 0] H n k := by
  refine BO (s := Dz (KN lfp G)) QF (by obtain ⟨h, o⟩ := WU BP G; rw [QF] at h; cases h; exact o) ?_
  show KN lfp G (Runs F G) (.ptr lb 0) H n k
  delta KN
  obtain ⟨line, col, x1, x2, x3, x4, hg⟩ := id h
  have hne : lb ≠ n := by omega
  have hne1 : lb ≠ n + 1 := by omega
  have d0 : Aa (.ptr lb 0) G H = some (sB s) := Ad hg rfl
  have d1 : Aa (.ptr lb 1) G H = some (.int .i64 (.ofNat a) 0) := Ad hg rfl
  have e2 : Az 2 (.ptr lb 2) G H = some (.agg [.int .i64 (.ofNat line) 0, .int .i64 (.ofNat col) 0]) := Je hg (by omega) (by show 2 + 2 <= 4; omega)
  simp only [go_sem, Nat.reduceAdd, hne, hne1, e2, AIn]
  rw [T.set_set]
  have f1 : Kp H n (T.set (T.set H n (one [.int .i64 (.ofNat 0) 0, .str 0 0, .int .i64 (.ofNat 0) 0, .int .i64 (.ofNat 0) 0, .int .i64 (.ofNat 0) 0])) (n + 1) (one [.int .i64 (.ofNat 0) 0, .str 0 0, .int .i64 (.ofNat 0) 0, .int .i64 (.ofNat line) 0, .int .i64 (.ofNat col) 0])) (n + 1 + 1) :=
    ((Kp.refl H n).new (m := n + 1) _ (Nat.le_refl _) (by omega)).new _ (by omega) (by omega)
  have g1 := (T.Am (T.set H n (one [V.int .i64 (.ofNat 0) 0, .str 0 0, .int .i64 (.ofNat 0) 0, .int .i64 (.ofNat 0) 0, .int .i64 (.ofNat 0) 0])) (one [.int .i64 (.ofNat 0) 0, .str 0 0, .int .i64 (.ofNat 0) 0, .int .i64 (.ofNat line) 0, .int .i64 (.ofNat col) 0]) (show n + 1 ≠ n by omega)).trans (T.Ap ..)
  have g2 := T.Ap (T.set H n (one [V.int .i64 (.ofNat 0) 0, .str 0 0, .int .i64 (.ofNat 0) 0, .int .i64 (.ofNat 0) 0, .int .i64 (.ofNat 0) 0])) (n + 1) (one [V.int .i64 (.ofNat 0) 0, .str 0 0, .int .i64 (.ofNat 0) 0, .int .i64 (.ofNat line) 0, .int .i64 (.ofNat col) 0])
  generalize T.set (T.set H n (one [V.int .i64 (.ofNat 0) 0, .str 0 0, .int .i64 (.ofNat 0) 0, .int .i64 (.ofNat 0) 0, .int .i64 (.ofNat 0) 0])) (n + 1) (one [V.int .i64 (.ofNat 0) 0, .str 0 0, .int .i64 (.ofNat 0) 0, .int .i64 (.ofNat line) 0, .int .i64 (.ofNat col) 0]) = H1 at f1 g1 g2 ⊢
  have h := h.kp hlb f1
  have hg := f1.get hg hlb
  have e0 : Aa (.ptr lb 0) G H1 = some (sB s) := Ad hg rfl
  have e1 : Aa (.ptr lb 1) G H1 = some (.int .i64 (.ofNat a) 0) := Ad hg rfl
  simp only [go_sem, d0, d1, aj, Xq]
  have g2 : T.get H1 (n + 1) = some (one (Pv FP line col)) := g2
  rcases Nat.lt_or_ge a s.length with hlt | hge
  case inr =>
    have : a = s.length := by omega
    subst this
    simp only [decide_true, go_sem]
    rw [List.drop_eq_nil_of_le (Nat.le_refl _)] at hk
    rw [U0 (m := 5) g1 (by omega) rfl rfl, BI (m := 5) (T.Ap ..) (by omega) rfl]
    simp only [go_sem]
    obtain ⟨l1, c1, y1, y2, y3, y4, hg⟩ := h
    refine hk _ _ _ ((f1.set _ (Nat.le_refl _)).kx) ⟨l1, c1, y1, y2, y3, y4, ?_⟩ rfl fun _ => ⟨line, col, x1, x2, rfl⟩
    rw [T.Am _ _ (by omega)]; exact hg
  case inl =>
  have hd := List.drop_eq_getElem_cons hlt
  simp only [show decide (a = s.length) = false by simp; omega, go_sem, Nat.reduceAdd, d0, d1, xg hlt]
  rw [hd, show ∀ (c : UInt8) (l : Bs), F9 (c :: l) = (bif great c then XT ⟨2, (c :: l).takeWhile inner, 0⟩ else
    bif small c then XT ⟨bif decide ((c :: l).takeWhile inner ∈ PU) then 1 else 3, (c :: l).takeWhile inner, 0⟩ else
    bif digit c then (match Xn 0 ((c :: l).takeWhile digit) with | none => (22, FP) | some n => (0, ⟨4, (c :: l).takeWhile digit, n⟩)) else
    match D9.find? (fun m => pre m (c :: l)) with | none => (20, FP) | some m => (0, ⟨5, m, 0⟩)) from fun _ _ => rfl, <- hd] at hk
  have f0 := f1.kx (b := lb)
  have hq : n + 1 ≠ lb := by omega
  have dh : ∀ {H2 : Heap} {t : Tok} {kd : Nat} {P : KV}, T.get H2 (n + 1) = some (one (Pv t line col)) -> (∀ H3, T.get H3 (n + 1) = some (one (Pv { t with kind := kd } line col)) -> (∀ j, j ≠ n + 1 -> T.get H3 j = T.get H2 j) -> P .undef H3 (n + 1 + 1)) ->
      Bd 1 (.ptr (n + 1) 0) (.int .i64 (.ofNat kd) 0) H2 (n + 1 + 1) P := by
    intro H2 t kd P hg hP
    exact Dp hg rfl rfl (by omega) (by show 0 + 1 <= 5; omega) fun H3 g3 s3 => hP H3 g3 s3
  have AI9 : ∀ {H2 : Heap} {t : Tok} {tx : Bs} {P : KV}, T.get H2 (n + 1) = some (one (Pv t line col)) -> (∀ H3, T.get H3 (n + 1) = some (one (Pv { t with text := tx } line col)) -> (∀ j, j ≠ n + 1 -> T.get H3 j = T.get H2 j) -> P .undef H3 (n + 1 + 1)) ->
      Bd 1 (.ptr (n + 1) 1) (sB tx) H2 (n + 1 + 1) P := by
    intro H2 t tx P hg hP
    exact Dp hg rfl rfl (by omega) (by show 1 + 1 <= 5; omega) fun H3 g3 s3 => hP H3 g3 s3
  have AV5 : ∀ {H2 : Heap} {t : Tok} {nu : Nat} {P : KV}, T.get H2 (n + 1) = some (one (Pv t line col)) -> (∀ H3, T.get H3 (n + 1) = some (one (Pv { t with num := nu } line col)) -> (∀ j, j ≠ n + 1 -> T.get H3 j = T.get H2 j) -> P .undef H3 (n + 1 + 1)) ->
      Bd 1 (.ptr (n + 1) 2) (.int .i64 (.ofNat nu) 0) H2 (n + 1 + 1) P := by
    intro H2 t nu P hg hP
    exact Dp hg rfl rfl (by omega) (by show 2 + 1 <= 5; omega) fun H3 g3 s3 => hP H3 g3 s3
  have only : ∀ {H2 H3 : Heap}, Kx lb H n H2 (n + 1 + 1) /\ T.get H2 n = T.get H1 n /\ LAt H2 lb s a -> (∀ j, j ≠ n + 1 -> T.get H3 j = T.get H2 j) -> Kx lb H n H3 (n + 1 + 1) /\ T.get H3 n = T.get H1 n /\ LAt H3 lb s a := by
    intro H2 H3 ⟨x, y, z⟩ hs
    obtain ⟨l1, c1, y1, y2, y3, y4, hg⟩ := z
    exact ⟨⟨by omega, fun id hid hb => (hs id (by omega)).trans (x.same id hid hb)⟩, (hs n (by omega)).trans y, l1, c1, y1, y2, y3, y4, (hs lb (by omega)).trans hg⟩
  have b0 : Kx lb H n H1 (n + 1 + 1) /\ T.get H1 n = T.get H1 n /\ LAt H1 lb s a := ⟨f0, rfl, h⟩
  have fin : ∀ {H2 : Heap} {t : Tok}, Kx lb H n H2 (n + 1 + 1) /\ T.get H2 n = T.get H1 n /\ LAt H2 lb s a -> T.get H2 (n + 1) = some (one (Pv t line col)) -> a + t.text.length <= s.length -> AAj k H n lb s a (mF t) ->
      CW lfp G (Runs F G) k (.ptr lb 0) (.ptr n 0) (.ptr (n + 1) 0) H2 (n + 1 + 1) := fun b g ht hk =>
    AA1 b.1 (b.2.1.trans g1) g (by omega) (by omega) hq (by omega) (by omega) (by omega) b.2.2 ht hs x1 x2 hk
  have hin := ABx inner (s.drop a)
  have hdi := ABx digit (s.drop a)
  rw [List.length_drop] at hin hdi
  refine ADr ?_
  cases k1 : great s[a] with
  | true =>
    rw [k1] at hk
    simp only [go_sem]
    refine AGK (f := aU) (fun c H n k hk => ADT hk) h ha hs ?_
    refine dh g2 fun H2 g s2 => ?_
    refine AI9 g fun H3 g s3 => ?_
    refine fin (only (only b0 s2) s3) g (by show a + (List.takeWhile inner (s.drop a)).length <= _; omega) ?_
    have e : mF ⟨2, (s.drop a).takeWhile inner, 0⟩ = XT ⟨2, (s.drop a).takeWhile inner, 0⟩ := by simp [mF, XT]
    exact e ▸ hk
  | false =>
    rw [k1] at hk
    simp only [go_sem]
    refine ADy ?_
    cases k2 : small s[a] with
    | true =>
      rw [k2] at hk
      simp only [go_sem]
      refine AGK (f := aU) (fun c H n k hk => ADT hk) h ha hs ?_
      refine dh g2 fun H2 g s2 => ?_
      refine AI9 g fun H3 g s3 => ?_
      have q1 : Aa (.ptr (n + 1) 1) G H3 = some (sB ((s.drop a).takeWhile inner)) := Ad g rfl
      simp only [go_sem, Nat.reduceAdd, q1]
      refine AJL ?_
      cases k3 : decide ((s.drop a).takeWhile inner ∈ PU) with
      | true =>
        rw [k3] at hk
        simp only [go_sem, Nat.reduceAdd]
        refine dh g fun H4 g s4 => ?_
        refine fin (only (only (only b0 s2) s3) s4) g (by show a + (List.takeWhile inner (s.drop a)).length <= _; omega) ?_
        have e : mF ⟨1, (s.drop a).takeWhile inner, 0⟩ = XT ⟨1, (s.drop a).takeWhile inner, 0⟩ := by simp [mF, XT]
        exact e ▸ hk
      | false =>
        rw [k3] at hk
        simp only [go_sem]
        refine fin (only (only b0 s2) s3) g (by show a + (List.takeWhile inner (s.drop a)).length <= _; omega) ?_
        have e : mF ⟨3, (s.drop a).takeWhile inner, 0⟩ = XT ⟨3, (s.drop a).takeWhile inner, 0⟩ := by simp [mF, XT]
        exact e ▸ hk
    | false =>
      rw [k2] at hk
      simp only [go_sem]
      refine yG ?_
      cases k3 : digit s[a] with
      | true =>
        rw [k3] at hk
        simp only [go_sem]
        refine AGK (f := WO) (fun c H n k hk => yG hk) h ha hs ?_
        refine dh g2 fun H2 g s2 => ?_
        refine AI9 g fun H3 g s3 => ?_
        have q1 : Aa (.ptr (n + 1) 1) G H3 = some (sB ((s.drop a).takeWhile digit)) := Ad g rfl
        simp only [go_sem, Nat.reduceAdd, q1]
        have b3 := only (only b0 s2) s3
        have htw : ∀ c ∈ (s.drop a).takeWhile digit, digit c = true := fun c hc => by
          have := List.all_takeWhile (l := s.drop a) (p := digit); exact List.all_eq_true.1 this c hc
        refine AGX htw (by omega) fun H4 f4 => ?_
        have g4 := f4.get g (by omega)
        have b4 := b3.1.trans f4.kx
        have gn := f4.get (b3.2.1.trans g1) (by omega)
        have h4 := b3.2.2.kp (n := n + 1 + 1) (by omega) f4
        cases hnum : Xn 0 ((s.drop a).takeWhile digit) with
        | none =>
          rw [hnum] at hk
          simp only [ALZ, go_sem, Nat.reduceAdd]
          refine Dp g4 rfl rfl (by omega) (by show 2 + 1 <= 5; omega) fun H5 g5 s5 => ?_
          have e : XI (.bool false) = some (.bool true) := rfl
          simp only [go_sem, e, zT]
          have gn5 := (s5 n (by omega)).trans gn
          rw [U0 (m := 5) gn5 (by omega) rfl rfl, BI (m := 5) (T.Ap ..) (by omega) rfl]
          simp only [go_sem]
          obtain ⟨l1, c1, y1, y2, y3, y4, hg⟩ := h4
          refine hk _ _ _ ⟨by omega, fun id hid hb => ?_⟩ ⟨l1, c1, y1, y2, y3, y4, ?_⟩ rfl fun h => by cases h
          · rw [T.Am _ _ (by omega), s5 _ (by omega)]; exact b4.same id hid hb
          · rw [T.Am _ _ (by omega), s5 _ (by omega)]; exact hg
        | some nu =>
          rw [hnum] at hk
          simp only [ALZ, go_sem, Nat.reduceAdd]
          refine Dp g4 rfl rfl (by omega) (by show 2 + 1 <= 5; omega) fun H5 g5 s5 => ?_
          have e : XI (.bool true) = some (.bool false) := rfl
          simp only [go_sem, e]
          have gn5 := (s5 n (by omega)).trans gn
          have g5 : T.get H5 (n + 1) = some (one (Pv ⟨4, (s.drop a).takeWhile digit, nu⟩ line col)) := g5
          have b5 : Kx lb H n H5 (n + 1 + 1 + 1) := ⟨b4.le, fun id hid hb => (s5 id (by omega)).trans (b4.same id hid hb)⟩
          obtain ⟨l1, c1, y1, y2, y3, y4, hg⟩ := h4
          refine AA1 b5 gn5 g5 (by omega) (by omega) hq (by omega) (by omega) (by omega) ⟨l1, c1, y1, y2, y3, y4, (s5 _ (by omega)).trans hg⟩ (by show a + (List.takeWhile digit (s.drop a)).length <= _; omega) hs x1 x2 ?_
          have e : mF ⟨4, (s.drop a).takeWhile digit, nu⟩ = (0, ⟨4, (s.drop a).takeWhile digit, nu⟩) := by simp [mF]
          exact e ▸ hk
      | false =>
        rw [k3] at hk
        simp only [go_sem]
        have e80 : Az 22 (.gptr 0 0) G H1 = some (.agg (D9.map sB)) := by
          show Ku (G 0 0 22) (fun L => some (.agg L)) = _
          rw [hG]; rfl
        simp only [go_sem, e80]
        obtain ⟨R, hR⟩ : ∃ R, D9.find? (fun m => pre m (s.drop a)) = R := ⟨_, rfl⟩
        rw [hR] at hk
        refine VF (N := 22) (J := fun j q => q = (.ptr lb 0, .ptr n 0, .ptr (n + 1) 0, .agg (D9.map sB), .int .i64 (.ofNat j) 0, H1, n + 1 + 1) /\ (D9.drop j).find? (fun m => pre m (s.drop a)) = R) ?_ ?_ ⟨rfl, hR⟩
        · rintro I j q hlt ⟨rfl, hR⟩ ih
          show Gp lfp G (Runs F G) k I (.ptr lb 0) (.ptr n 0) (.ptr (n + 1) 0) (.agg (D9.map sB)) (.int .i64 (.ofNat j) 0) H1 (n + 1 + 1)
          delta Gp
          have hj : j < D9.length := hlt
          rw [List.drop_eq_getElem_cons hj, List.find?_cons] at hR
          have hlen : (D9[j]).length <= 2 := by
            have : ∀ m ∈ D9, m.length <= 2 := by decide
            exact this _ (List.getElem_mem hj)
          have hix : AFi 22 (.agg (D9.map sB)) (.int .i64 (.ofNat j) 0) = some (sB D9[j]) := by
            show Aq (Nat.blt j 22) (nth (D9.map sB) j) = _
            rw [show Nat.blt j 22 = true by rw [Nat.blt_eq]; exact hlt, Yo]
            show (D9.map sB)[j]? = _
            simp [hj]
          generalize D9[j] = m at hR hlen hix
          simp only [go_sem, Q8, hlt, decide_true, hix, Nat.reduceAdd, e0, e1, ADB ha]
          refine oI ?_
          cases hp : pre m (s.drop a) with
          | true =>
            rw [hp] at hR
            subst hR
            simp only [go_sem, Nat.reduceAdd]
            refine dh g2 fun H2 g s2 => ?_
            refine AI9 g fun H3 g s3 => ?_
            have hle : m.length <= s.length - a := by
              unfold pre at hp
              rw [List.length_drop] at hp
              simp only [Bool.and_eq_true, decide_eq_true_eq] at hp
              exact hp.1
            refine fin (only (only b0 s2) s3) g (by show a + m.length <= _; omega) ?_
            have e : mF ⟨5, m, 0⟩ = (0, ⟨5, m, 0⟩) := by
              have : ¬ 40 < m.length := by omega
              simp [mF, this]
            exact e ▸ hk
          | false =>
            rw [hp] at hR
            simp only [go_sem, Kq (show j + 1 < 9223372036854775808 by omega)]
            exact ih _ ⟨rfl, hR⟩
        · rintro I q ⟨rfl, hR⟩
          show Gp lfp G (Runs F G) k I (.ptr lb 0) (.ptr n 0) (.ptr (n + 1) 0) (.agg (D9.map sB)) (.int .i64 (.ofNat 22) 0) H1 (n + 1 + 1)
          delta Gp
          rw [show D9.drop 22 = [] from rfl] at hR
          subst hR
          simp only [go_sem, Q8, Nat.lt_irrefl, decide_false]
          exact fin b0 g2 (by show a + 0 <= _; omega) hk
end
end Go.PQ
namespace Go.PQ
open Go.Eng
set_option maxRecDepth 100000
def ADi (c : LV) (t : Tok) : Prop := ∃ line col, 1 <= line /\ 1 <= col /\ c = Pv t line col
theorem rV (c : UInt8) (l : Bs) : F9 (c :: l) = (bif great c then XT ⟨2, (c :: l).takeWhile inner, 0⟩ else
    bif small c then XT ⟨bif decide ((c :: l).takeWhile inner ∈ PU) then 1 else 3, (c :: l).takeWhile inner, 0⟩ else
    bif digit c then (match Xn 0 ((c :: l).takeWhile digit) with | none => (22, FP) | some n => (0, ⟨4, (c :: l).takeWhile digit, n⟩)) else
    match D9.find? (fun m => pre m (c :: l)) with | none => (20, FP) | some m => (0, ⟨5, m, 0⟩)) := rfl
theorem AHe : ∀ r : Bs, (F9 r).2.text.length <= r.length
 | [] => Nat.le_refl _
 | c :: l => by
  have h1 := ABx inner (c :: l)
  have h2 := ABx digit (c :: l)
  have hc : ∀ t : Tok, t.text.length <= (c :: l).length -> (XT t).2.text.length <= (c :: l).length := by
   intro t ht; unfold XT; cases decide (40 < t.text.length)
   ·exact ht
   ·exact Nat.zero_le _
  rw [rV]
  cases great c
  case true => exact hc ⟨2, _, 0⟩ h1
  cases small c
  case true => exact hc ⟨_, _, 0⟩ h1
  cases digit c
  case true =>
   simp only [cond_true, cond_false]
   cases Xn 0 ((c :: l).takeWhile digit) with
   | none => exact Nat.zero_le _
   | some n => exact h2
  simp only [cond_false]
  cases hf : D9.find? (fun m => pre m (c :: l)) with
  | none => exact Nat.zero_le _
  | some m =>
   have := List.find?_some hf
   simp only [pre, Bool.and_eq_true, decide_eq_true_eq] at this
   exact this.1
theorem AFH : ∀ r : Bs, (F9 r).1 = 0 -> (F9 r).2.kind ≠ 0 -> 0 < (F9 r).2.text.length
 | [] => fun _ h => absurd rfl h
 | c :: l => by
  have hc : ∀ t : Tok, 0 < t.text.length -> (XT t).1 = 0 -> 0 < (XT t).2.text.length := by
   intro t ht; unfold XT; cases decide (40 < t.text.length)
   ·exact fun _ => ht
   ·intro h; cases h
  have tw : ∀ g : UInt8 -> Bool, g c = true -> 0 < ((c :: l).takeWhile g).length := fun g h => by rw [List.takeWhile_cons, h]; simp
  rw [rV]
  cases h1 : great c
  case true => exact fun h _ => hc ⟨2, _, 0⟩ (tw inner (by simp [inner, h1])) h
  cases h2 : small c
  case true => exact fun h _ => hc ⟨_, _, 0⟩ (tw inner (by simp [inner, h2])) h
  cases h3 : digit c
  case true =>
   simp only [cond_true, cond_false]
   cases Xn 0 ((c :: l).takeWhile digit) with
   | none => intro h; cases h
   | some n => exact fun _ _ => tw digit h3
  simp only [cond_false]
  cases hf : D9.find? (fun m => pre m (c :: l)) with
  | none => intro h; cases h
  | some m =>
   intro _ _
   have h4 : ∀ m ∈ D9, 0 < m.length := by decide
   exact h4 m (List.mem_of_find?_eq_some hf)
def AQA (G : AP) (k : KV) (H : Heap) (n : Nat) (r : Nat × List Tok) : Prop := ∀ (H' : Heap) (n' : Nat) (v : V) (c : LV), Kp H n H' n' ->
 (r.1 = 0 -> (∃ cs id, v = .NW id 0 cs.length 5 /\ n <= id /\ id < n' /\ El G H' v 5 cs /\ Pw ADi cs r.2) /\ c = [.int .i64 (.ofNat 0) 0, .int .i64 (.ofNat 0) 0, .int .i64 (.ofNat 0) 0]) ->
 (r.1 ≠ 0 -> ∃ line col, 1 <= line /\ 1 <= col /\ c = [.int .i64 (.ofNat r.1) 0, .int .i64 (.ofNat line) 0, .int .i64 (.ofNat col) 0]) -> k (.GK [v, .agg c]) H' n'
theorem AB8 {z0 z1 z2 a b : V} (e : Int) : BZ [z0, z1, z2] [(0, 1, .c (.int .i64 e 0)), (1, 2, .c (.agg [a, b]))] = some (.agg [.int .i64 e 0, a, b]) := rfl
theorem AMq {z0 z1 z2 : V} : BZ [z0, z1, z2] [] = some (.agg [z0, z1, z2]) := rfl
theorem ANA {z0 z1 z2 z3 a b : V} (s : Bs) : BZ [z0, z1, z2, z3] [(0, 1, .c (sB s)), (2, 2, .c (.agg [a, b]))] = some (.agg [sB s, z1, a, b]) := rfl
section
variable {G : AP} {H : Heap} {n : Nat} {s : Bs} {k : KV}
theorem AQW (hG : TA G) (hk : AQA G k H n (vZ s)) : Runs F G wG [sB s] H n k := by
  refine BO (s := Dz (YD lfp G)) fP (by obtain ⟨h, o⟩ := uI BP G; rw [fP] at h; cases h; exact o) ?_
  show YD lfp G (Runs F G) (sB s) H n k
  delta YD
  unfold vZ at hk
  simp only [go_sem, Nat.reduceAdd, AGz, ANA, aj, jm]
  have f1 : Kp H n (T.set (T.set H n (one [.int .i64 (.ofNat 0) 0, .int .i64 (.ofNat 0) 0, .int .i64 (.ofNat 0) 0])) (n + 1) (one [sB s, .int .i64 (.ofNat 0) 0, .int .i64 (.ofNat 1) 0, .int .i64 (.ofNat 1) 0])) (n + 1 + 1) :=
    ((Kp.refl H n).new (m := n + 1) _ (Nat.le_refl _) (by omega)).new _ (by omega) (by omega)
  have g1 := (T.Am (T.set H n (one [V.int .i64 (.ofNat 0) 0, .int .i64 (.ofNat 0) 0, .int .i64 (.ofNat 0) 0])) (one [sB s, .int .i64 (.ofNat 0) 0, .int .i64 (.ofNat 1) 0, .int .i64 (.ofNat 1) 0]) (show n + 1 ≠ n by omega)).trans (T.Ap ..)
  have g2 := T.Ap (T.set H n (one [V.int .i64 (.ofNat 0) 0, .int .i64 (.ofNat 0) 0, .int .i64 (.ofNat 0) 0])) (n + 1) (one [sB s, .int .i64 (.ofNat 0) 0, .int .i64 (.ofNat 1) 0, .int .i64 (.ofNat 1) 0])
  generalize T.set (T.set H n (one [V.int .i64 (.ofNat 0) 0, .int .i64 (.ofNat 0) 0, .int .i64 (.ofNat 0) 0])) (n + 1) (one [sB s, .int .i64 (.ofNat 0) 0, .int .i64 (.ofNat 1) 0, .int .i64 (.ofNat 1) 0]) = H1 at f1 g1 g2 ⊢
  cases hs : decide (65536 < s.length) with
  | true =>
    rw [hs] at hk
    simp only [go_sem, Nat.reduceAdd]
    rw [Je (m := 2) (o := 2) g2 (by omega) (by show 2 + 2 <= 4; omega)]
    simp only [go_sem, List.drop_succ_cons, List.drop_zero, List.take_succ_cons, List.take_zero, AB8]
    rw [U0 (m := 3) g1 (by omega) rfl rfl, BI (m := 3) (T.Ap ..) (by omega) rfl]
    simp only [go_sem]
    exact hk _ _ _ _ (f1.set _ (Nat.le_refl _)) (fun h => by cases h) fun _ => ⟨1, 1, by omega, by omega, rfl⟩
  | false =>
    rw [hs, cond_false] at hk
    have hs : s.length <= 65536 := by simpa using hs
    simp only [go_sem]
    refine KY (J := fun m q => ∃ H' n' a v cs xs f, m = s.length - a /\ q = (.ptr n 0, .ptr (n + 1) 0, v, H', n') /\ Kp H n H' n' /\ n + 2 <= n' /\ T.get H' n = some (one [.int .i64 (.ofNat 0) 0, .int .i64 (.ofNat 0) 0, .int .i64 (.ofNat 0) 0]) /\ LAt H' (n + 1) s a /\
      a <= s.length /\ Own G H' (n + 2) n' 5 v cs /\ Pw ADi cs xs /\ cs.length <= a /\ s.length - a < f /\ AQA G k H n ((kD f (s.drop a)).1, xs ++ (kD f (s.drop a)).2)) ?_ (m := s.length)
      ⟨H1, n + 1 + 1, 0, .Ag, [], [], s.length + 1, rfl, rfl, f1, by omega, g1, ⟨1, 1, by omega, by omega, by omega, by omega, g2⟩, by omega, dN, .nil, by simp, by omega, hk⟩
    rintro I m q ⟨H2, n2, a, v, cs, xs, f, rfl, rfl, f2, hn2, g0, hl, ha, ho, hx, hcs, hf, hk⟩ ih
    show Wn lfp G (Runs F G) k I (.ptr n 0) (.ptr (n + 1) 0) v H2 n2
    delta Wn
    refine ALv hl ha hs fun H3 a3 f3 hl3 ha3 hd3 => ?_
    refine AL1 hG hl3 ha3 hs (by omega) ?_
    obtain ⟨f, rfl⟩ : ∃ g, f = g + 1 := ⟨f - 1, by omega⟩
    rw [hd3]
    have hlexF : kD (f + 1) (s.drop a) = bif decide ((F9 (Bg false (s.drop a))).1 = 0) then
        bif decide ((F9 (Bg false (s.drop a))).2.kind = 0) then (0, [(F9 (Bg false (s.drop a))).2])
        else ((kD f ((Bg false (s.drop a)).drop (F9 (Bg false (s.drop a))).2.text.length)).1, (F9 (Bg false (s.drop a))).2 :: (kD f ((Bg false (s.drop a)).drop (F9 (Bg false (s.drop a))).2.text.length)).2)
      else ((F9 (Bg false (s.drop a))).1, []) := rfl
    rw [hlexF, <- hd3] at hk
    have hle := AHe (s.drop a3)
    have hpos := AFH (s.drop a3)
    rw [List.length_drop] at hle
    rw [<- hd3]
    intro H4 n4 c f4 hl4 hcl ht
    generalize F9 (s.drop a3) = R at hk hle hpos hl4 ht
    obtain ⟨e, t⟩ := R
    simp only [go_sem, Nat.reduceAdd]
    obtain ⟨c0, c1, c2, c3, c4, rfl⟩ : ∃ c0 c1 c2 c3 c4, c = [c0, c1, c2, c3, c4] := by
      match c, hcl with
      | [c0, c1, c2, c3, c4], _ => exact ⟨c0, c1, c2, c3, c4, rfl⟩
    have f24 := f3.trans f4
    have hn4 := f24.le
    have g04 : T.get H4 n = _ := f24.get g0 (by omega) (by omega)
    have ho4 := ho.kx f24 (by omega)
    have f4' : Kp H n H4 n4 := ⟨by have := f2.le; omega, fun id hid => (f24.same id (by omega) (by omega)).trans (f2.same id hid)⟩
    simp only [go_sem, Nat.reduceAdd]
    rw [T.set_set]
    have f5 : Kp H4 n4 (T.set H4 n4 (one [c0, c1, c2, c3, c4])) (n4 + 1) := (Kp.refl _ _).new _ (Nat.le_refl _) (by omega)
    have g5 := T.Ap H4 n4 (one [c0, c1, c2, c3, c4])
    generalize T.set H4 n4 (one [c0, c1, c2, c3, c4]) = H5 at f5 g5 ⊢
    have g05 := f5.get g04 (by omega)
    have f5' := f4'.trans f5
    have hl5 := hl4.kp (n := n4) (by omega) f5
    simp only [eG]
    cases he : decide (e = 0) with
    | false =>
      have he' : e ≠ 0 := by simpa using he
      rw [he, cond_false] at hk
      obtain ⟨line, col, y1, y2, y3, y4, hg⟩ := hl5
      simp only [Bool.not_false, go_sem, Nat.reduceAdd]
      rw [Je (m := 2) (o := 2) hg (by omega) (by show 2 + 2 <= 4; omega)]
      simp only [go_sem, List.drop_succ_cons, List.drop_zero, List.take_succ_cons, List.take_zero, AB8]
      rw [U0 (m := 3) g05 (by omega) rfl rfl, BI (m := 3) (T.Ap ..) (by omega) rfl]
      simp only [go_sem]
      exact hk _ _ _ _ (f5'.set _ (Nat.le_refl _)) (fun h => absurd h he') fun _ => ⟨line, col, y1, y2, rfl⟩
    | true =>
      have he' : e = 0 := by simpa using he
      subst he'
      rw [he, cond_true] at hk
      obtain ⟨line, col, y1, y2, hc⟩ := ht rfl
      rw [hc] at g5 ⊢
      simp only [Bool.not_true, go_sem]
      refine NJ (G := G) (vs := [.agg (Pv t line col)]) rfl (by omega) (fun v hv => by simp at hv; subst hv; exact ⟨rfl, rfl⟩) fun H6 f6 _ hel => ?_
      have ho6 := (ho4.kp f5).kp f6
      refine ho6.gr.app (by omega) ho6.lo hel.2 (by show (cs.length + 1) * 48 <= _; omega) ?_ (fun h => by cases h)
      intro v' H7 hgr hsame hlo
      have hgr : Gr G H7 (n + 2) 5 v' (cs ++ [Pv t line col]) := hgr
      have f7 : Kp H n H7 (n4 + 1 + 1 + 1) := ⟨by have := f5'.le; omega, fun id hid => (hsame id (by have := f5'.le; omega) (fun h => by have := ho6.ge h; omega)).trans ((f6.same id (by have := f5'.le; omega)).trans (f5'.same id hid))⟩
      have g7 : ∀ {id : Nat} {b : Np}, id < n + 2 -> T.get H5 id = some b -> T.get H7 id = some b := fun hid h => (hsame _ (by omega) (fun h => by have := ho6.ge h; omega)).trans ((f6.same _ (by omega)).trans h)
      have g57 : T.get H7 n4 = some (one (Pv t line col)) := (hsame n4 (by omega) (fun h => by have := ho4.lo _ h; omega)).trans ((f6.same n4 (by omega)).trans g5)
      have q0 : Aa (.ptr n4 0) G H7 = some (.int .i64 (.ofNat t.kind) 0) := Ad g57 rfl
      have hel7 : El G H7 v' 5 (cs ++ [Pv t line col]) := hgr.el (by omega)
      have hpw : Pw ADi (cs ++ [Pv t line col]) (xs ++ [t]) := hx.app (.cons ⟨line, col, y1, y2, rfl⟩ .nil)
      simp only [go_sem, Nat.reduceAdd, q0, Xq]
      cases hkd : decide (t.kind = 0) with
      | true =>
        rw [hkd, cond_true] at hk
        simp only [go_sem, AMq]
        rw [U0 (m := 3) (g7 (by omega) g05) (by omega) rfl rfl, BI (m := 3) (T.Ap ..) (by omega) rfl]
        simp only [go_sem]
        have f8 := f7.set (one [V.int .i64 (.ofNat 0) 0, .int .i64 (.ofNat 0) 0, .int .i64 (.ofNat 0) 0]) (Nat.le_refl n)
        refine hk _ _ _ _ f8 (fun _ => ⟨?_, rfl⟩) (fun h => absurd rfl h)
        have hel8 : El G (T.set H7 n (one [V.int .i64 (.ofNat 0) 0, .int .i64 (.ofNat 0) 0, .int .i64 (.ofNat 0) 0])) v' 5 (cs ++ [Pv t line col]) := hel7.same fun id hid => T.Am _ _ (by have := (hgr.lo hid).1; omega)
        generalize hcs' : cs ++ [Pv t line col] = cs' at hgr hel7 hel8 hpw
        cases hgr with
        | nil => simp at hcs'
        | NW hg hc ht hid =>
          rename_i id c tt
          exact ⟨_, id, rfl, by omega, by have := hlo id rfl; omega, hel8, hpw⟩
      | false =>
        rw [hkd, cond_false] at hk
        have hkd' : t.kind ≠ 0 := by simpa using hkd
        have hp0 : 0 < t.text.length := hpos rfl hkd'
        have hle : t.text.length <= s.length - a3 := hle
        have hlen : (s.drop a3).length = (Bg false (s.drop a)).length := by rw [hd3]
        have hsk := Zq false (s.drop a)
        rw [List.length_drop] at hlen hsk
        simp only [go_sem]
        have hl7 : LAt H7 (n + 1) s (a3 + t.text.length) := by
          obtain ⟨line, col, y1, y2, y3, y4, hg⟩ := hl5
          exact ⟨line, col, y1, y2, y3, y4, g7 (by omega) hg⟩
        refine ih (s.length - (a3 + t.text.length)) _ (by omega) ⟨H7, n4 + 1 + 1 + 1, a3 + t.text.length, v', cs ++ [Pv t line col], xs ++ [t], f, rfl, rfl, f7, by omega, g7 (by omega) g05, hl7, by omega, ⟨hgr, hlo⟩, hpw, ?_, by omega, ?_⟩
        · rw [List.length_append]; show cs.length + 1 <= _; omega
        · rw [List.append_assoc, <- List.drop_drop]; exact hk
end
end Go.PQ
namespace Go.PQ
open Go.Eng
structure S where
 t : Tok
 r : List Tok
 deep : Nat
 e : Nat
abbrev PM (α : Type) := S -> Option (α × S)
def S.ok (s : S) : Bool := decide (s.e = 0)
def Fj (e : Nat) (s : S) : S := bif s.ok then { s with e := e } else s
def O0 (w : Bs) (s : S) : Bool := s.ok && ((decide (s.t.kind = 1) || decide (s.t.kind = 5)) && decide (s.t.text = w))
def Oj (ws : List Bs) (s : S) : Bool := ws.any fun w => O0 w s
def Ko (s : S) : Option S := bif decide (s.t.kind = 0) then some s else match s.r with | [] => none | t :: r => some { s with t := t, r := r }
def Cc (w : Bs) : PM Bool := fun s => bif O0 w s then (Ko s).bind fun s' => some (true, s') else some (false, s)
def Ce : List Bs -> S -> Option S
 | [], s => some s
 | w :: ws, s => (Cc w s).bind fun p => Ce ws (bif p.1 then p.2 else Fj 21 p.2)
def Hr (k : Nat) : PM Bs := fun s => bif s.ok && decide (s.t.kind = k) then (Ko s).bind fun s' => some (s.t.text, s') else some ([], Fj 21 s)
def Qs (s : S) : Option S := bif decide (s.deep < 1000000) then some (bif decide (100 < s.deep + 1) then Fj 3 { s with deep := s.deep + 1 } else { s with deep := s.deep + 1 }) else none
def bD (s : S) : Option S := match s.deep with | 0 => none | d + 1 => bif decide (d < 1000000) then some { s with deep := d } else none
def Ht (n : Nat) (s : S) : S := bif decide (200 < n) then Fj 4 s else s
structure Ty where
 nm : Bs
 arr : Bool
def ABs : PM Ty := fun s => (Cc F5 s).bind fun p => bif p.1 then some (⟨F5, false⟩, p.2) else
 (Cc Ru p.2).bind fun p => bif p.1 then some (⟨Ru, false⟩, p.2) else (Hr 2 p.2).bind fun p => some (⟨p.1, false⟩, p.2)
def jU : PM Ty := fun s => (ABs s).bind fun p => (Cc V4 p.2).bind fun q => bif q.1 then (Ce [XC] q.2).bind fun s => some (⟨p.1.nm, true⟩, s) else some (p.1, q.2)
inductive Ex where
 | mk (kind num : Nat) (nm : Bs) (ty : Bs) (arr : Bool) (kids : List Ex)
def Ex.kind : Ex -> Nat | .mk k _ _ _ _ _ => k
def dK (k : Nat) (w : Bs) (nx : PM Ex) : Nat -> Ex -> PM Ex
 | 0, _, _ => none
 | f + 1, e, s => bif Oj [w] s then (Ko s).bind fun s1 => (nx s1).bind fun p => dK k w nx f (.mk k 0 [] [] false [e, p.1]) p.2 else some (e, s)
def either (k : Nat) (w : Bs) (nx : PM Ex) (f : Nat) : PM Ex := fun s => (nx s).bind fun p => dK k w nx f p.1 p.2
def nD (ws : List Bs) (nx : PM Ex) : Nat -> Ex -> PM Ex
 | 0, _, _ => none
 | f + 1, e, s => bif Oj ws s then (Ko s).bind fun s1 => (nx s1).bind fun p => nD ws nx f (.mk 16 0 s.t.text [] false [e, p.1]) p.2 else some (e, s)
def signs (ws : List Bs) (nx : PM Ex) (f : Nat) : PM Ex := fun s => (nx s).bind fun p => nD ws nx f p.1 p.2
def sumP (un : PM Ex) (f : Nat) : PM Ex := signs [bP, CO] (signs [XL, SA, oZ] un f) f
def compared (un : PM Ex) (f : Nat) : PM Ex := fun s => (sumP un f s).bind fun p =>
 bif Oj [YH, kY, Vb, kG] p.2 then (Ko p.2).bind fun s1 => (sumP un f s1).bind fun q => some (.mk 16 0 p.2.t.text [] false [p.1, q.1], q.2) else some (p.1, p.2)
def asL : Nat -> Ex -> PM Ex
 | 0, _, _ => none
 | f + 1, e, s => bif Oj [AA7, pz] s then (Ko s).bind fun s1 => (Hr 2 s1).bind fun p => asL f (.mk (bif decide (s.t.text = pz) then 20 else 19) 0 [] p.1 false [e]) p.2 else some (e, s)
def ABl (rec : PM Ex) : Nat -> List Ex -> PM (List Ex)
  | 0, _, _ => none
  | f + 1, out, s => bif s.ok then (Cc Ik s).bind fun p => bif p.1 then some (out, p.2) else
      (bif decide (0 < out.length) then Ce [OM] p.2 else some p.2).bind fun s1 => (rec s1).bind fun q => ABl rec f (out ++ [q.1]) (Ht (out.length + 1) q.2)
    else some (out, s)
def xQ (rec : PM Ex) (f : Nat) : PM (List Ex) := fun s => (Ce [IL] s).bind fun s1 => ABl rec f [] s1
def jB (rec : PM Ex) (f : Nat) (e : Ex) : PM Ex := fun s => (Cc kQ s).bind fun p => bif p.1 then some (.mk 13 0 [] [] false [e], p.2) else
 (Hr 3 p.2).bind fun q => bif Oj [IL] q.2 then (xQ rec f q.2).bind fun a => some (.mk 8 0 q.1 [] false (e :: a.1), a.2) else some (.mk 7 0 q.1 [] false [e], q.2)
def uO (t : Ty) : Bool := !t.arr && (match t.nm with | [] => false | c :: _ => great c)
def Xy (rec : PM Ex) (f : Nat) : PM Ex := fun s =>
 bif !s.ok then some (.mk 0 0 [] [] false [], s) else
 bif decide (s.t.kind = 4) then (Ko s).bind fun s1 => some (.mk 1 s.t.num [] [] false [], s1) else
 bif decide (s.t.kind = 3) then (Ko s).bind fun s1 => some (.mk 6 0 s.t.text [] false [], s1) else
 bif decide (s.t.kind = 2) then (Ko s).bind fun s1 => (Ce [ZB] s1).bind fun s2 => (Hr 3 s2).bind fun q => (xQ rec f q.2).bind fun a => some (.mk 9 0 q.1 s.t.text false a.1, a.2) else
 (Cc VR s).bind fun p => bif p.1 then some (.mk 2 0 [] [] false [], p.2) else
 (Cc jK p.2).bind fun p => bif p.1 then some (.mk 3 0 [] [] false [], p.2) else
 (Cc Yt p.2).bind fun p => bif p.1 then some (.mk 4 0 [] [] false [], p.2) else
 (Cc rH p.2).bind fun p => bif p.1 then some (.mk 5 0 [] [] false [], p.2) else
 (Cc oD p.2).bind fun p => bif p.1 then
  ((ABs p.2).bind fun b => (Cc V4 b.2).bind fun q => bif q.1 then (rec q.2).bind fun x => (Ce [XC] x.2).bind fun s1 => some (.mk 11 0 [] b.1.nm b.1.arr [x.1], s1)
   else some (.mk 10 0 [] b.1.nm b.1.arr [], bif uO b.1 then q.2 else Fj 21 q.2)) else
 (Cc IL p.2).bind fun p => bif p.1 then (rec p.2).bind fun x => (Ce [Ik] x.2).bind fun s1 => some (x.1, s1) else
 some (.mk 0 0 [] [] false [], Fj 21 p.2)
def Yl (rec : PM Ex) : Nat -> Ex -> PM Ex
 | 0, _, _ => none
 | f + 1, e, s => (Cc V4 s).bind fun p => bif p.1 then (rec p.2).bind fun q => (Ce [XC] q.2).bind fun s1 => Yl rec f (.mk 12 0 [] [] false [e, q.1]) s1 else
  (Cc ZB p.2).bind fun p => bif p.1 then (jB rec f e p.2).bind fun q => Yl rec f q.1 q.2 else some (e, p.2)
def Z5 (rec : PM Ex) (f : Nat) : PM Ex := fun s => (Xy rec f s).bind fun p => Yl rec f p.1 p.2
def unary (rec : PM Ex) : Nat -> PM Ex
 | 0, _ => none
 | f + 1, s => bif Oj [CO] s then (Qs s).bind fun s1 => (Ko s1).bind fun s2 => (unary rec f s2).bind fun p => (bD p.2).bind fun s' => some (.mk 14 0 [] [] false [p.1], s') else
  bif Oj [RJ] s then (Qs s).bind fun s1 => (Ko s1).bind fun s2 => (unary rec f s2).bind fun p => (bD p.2).bind fun s' => some (.mk 15 0 [] [] false [p.1], s') else
  (Z5 rec f s).bind fun p => asL f p.1 p.2
def ABj (rec : PM Ex) (f : Nat) : PM Ex := fun s => (Qs s).bind fun s1 => (either 18 ACJ (either 17 kP (compared (unary rec f) f) f) f s1).bind fun p => (bD p.2).bind fun s' => some (p.1, s')
def expr : Nat -> PM Ex
 | 0, _ => none
 | f + 1, s => ABj (expr f) f s
inductive St where
 | mk (does : Nat) (nm : Bs) (ty : Ty) (es : List Ex) (th el : List St)
def Ea (st : PM St) : Nat -> List St -> PM (List St)
 | 0, _, _ => none
 | f + 1, out, s => bif s.ok then (Cc m_rc s).bind fun p => bif p.1 then some (out, p.2) else (st p.2).bind fun q => bif decide (out.length < 1000000) then Ea st f (out ++ [q.1]) q.2 else none
  else some (out, s)
def Om (st : PM St) (f : Nat) : PM (List St) := fun s => (Qs s).bind fun s1 => (Ce [G5] s1).bind fun s2 => (Ea st f [] s2).bind fun p => (bD p.2).bind fun s' => some (p.1, s')
def Xd : Ty := ⟨[], false⟩
def mQ (f : Nat) : PM St := fun s => (expr f s).bind fun p => bif Oj [O5] p.2 then
    (Ce [O5] (bif decide (p.1.kind = 6) || (decide (p.1.kind = 7) || decide (p.1.kind = 12)) then p.2 else Fj 21 p.2)).bind fun s1 => (expr f s1).bind fun q => some (.mk 2 [] Xd [p.1, q.1] [] [], q.2)
  else some (.mk 3 [] Xd [p.1] [] [], bif decide (p.1.kind = 8) || decide (p.1.kind = 9) then p.2 else Fj 21 p.2)
def endP (st : St) (s : S) : Option (St × S) := (Ce [BQ] s).bind fun s1 => some (st, s1)
def yP (st ch : PM St) (f : Nat) : PM St := fun s => (Qs s).bind fun s1 => (Ce [nK] s1).bind fun s2 => (expr f s2).bind fun c => (Om st f c.2).bind fun t =>
 (Cc AAQ t.2).bind fun p => (bif p.1 then (bif Oj [nK] p.2 then (ch p.2).bind fun x => some ([x.1], x.2) else Om st f p.2) else some ([], p.2)).bind fun x =>
 (bD x.2).bind fun s' => some (.mk 4 [] Xd [c.1] t.1 x.1, s')
def pO (st ch : PM St) (f : Nat) : PM St := fun s => (Cc jO s).bind fun p => bif p.1 then
    (jU p.2).bind fun t => (Hr 3 t.2).bind fun n => (Ce [O5] n.2).bind fun s1 => (expr f s1).bind fun x => endP (.mk 1 n.1 t.1 [x.1] [] []) x.2 else
  bif Oj [nK] p.2 then ch p.2 else
  (Cc QU p.2).bind fun p => bif p.1 then (expr f p.2).bind fun c => (Om st f c.2).bind fun t => some (.mk 5 [] Xd [c.1] t.1 [], t.2) else
  (Cc CY p.2).bind fun p => bif p.1 then (expr f p.2).bind fun x => endP (.mk 6 [] Xd [x.1] [] []) x.2 else
  (Cc WX p.2).bind fun p => bif p.1 then (expr f p.2).bind fun x => endP (.mk 7 [] Xd [x.1] [] []) x.2 else
  (mQ f p.2).bind fun x => endP x.1 x.2
def sc : Nat -> Bool -> PM St
 | 0, _, _ => none
 | f + 1, b, s => bif b then yP (sc f false) (sc f true) f s else pO (sc f false) (sc f true) f s
structure Va where
 nm : Bs
 ty : Ty
structure Me where
 nm : Bs
 st : Bool
 ps : List Va
 ret : Ty
 body : List St
structure Cl where
 nm : Bs
 sup : Bs
 fs : List Va
 ms : List Me
def dD : Nat -> List Va -> PM (List Va)
  | 0, _, _ => none
  | f + 1, out, s => bif s.ok then (Cc Ik s).bind fun p => bif p.1 then some (out, p.2) else
      (bif decide (0 < out.length) then Ce [OM] p.2 else some p.2).bind fun s1 => (jU s1).bind fun t => (Hr 3 t.2).bind fun n => dD f (out ++ [⟨n.1, t.1⟩]) (Ht (out.length + 1) n.2)
    else some (out, s)
def WG (f : Nat) : PM Me := fun s => (Cc Ov s).bind fun p => (Ce [Df] p.2).bind fun s1 => (jU s1).bind fun t => (Hr 3 t.2).bind fun n => (Ce [IL] n.2).bind fun s2 =>
 (dD f [] s2).bind fun ps => (Om (sc f false) f ps.2).bind fun b => some (⟨n.1, p.1, ps.1, t.1, b.1⟩, b.2)
def FU (f : Nat) : Nat -> List Va -> List Me -> PM (List Va × List Me)
  | 0, _, _, _ => none
  | g + 1, fs, ms, s => bif s.ok then (Cc m_rc s).bind fun p => bif p.1 then some ((fs, ms), p.2) else
      (Cc ND p.2).bind fun p => bif p.1 then (jU p.2).bind fun t => (Hr 3 t.2).bind fun n => (Ce [BQ] (Ht (fs.length + 1) n.2)).bind fun s1 => FU f g (fs ++ [⟨n.1, t.1⟩]) ms s1 else
      bif Oj [Ov, Df] p.2 then (WG f p.2).bind fun m => FU f g fs (ms ++ [m.1]) (Ht (ms.length + 1) m.2) else
      FU f g fs ms (Fj 21 p.2)
    else some ((fs, ms), s)
def ACn (f : Nat) : PM Cl := fun s => (Ce [Iw] s).bind fun s1 => (Hr 2 s1).bind fun n => (Cc dI n.2).bind fun p => (bif p.1 then Hr 2 p.2 else some ([], p.2)).bind fun u => (Ce [G5] u.2).bind fun s2 =>
 (FU f f [] [] s2).bind fun x => some (⟨n.1, u.1, x.1.1, x.1.2⟩, bif x.2.ok && !decide (x.2.t.kind = 0) then Fj 21 x.2 else x.2)
def MS (f : Nat) : List Tok -> Option (Cl × Nat)
 | [] => none
 | t :: r => (ACn f ⟨t, r, 0, 0⟩).bind fun p => some (p.1, p.2.e)
end Go.PQ
namespace Go.PQ
open Go.Eng
set_option maxRecDepth 100000
theorem ABq {e : Option V} {P : V -> Prop} {b : Bool} (h : P (.GK [])) : Bq (.GK []) b e P := h
theorem Gm {id o l c z i : Nat} (h : (V.sl id o l c z).Ul = some i) : i = id := by cases h; rfl
theorem fK {id o l z i : Nat} (h : (V.NW id o l z).Ul = some i) : i = id := by cases h; rfl
inductive Vw (G : AP) (H : Heap) (pb : Nat) (s : S) : Prop where
 | mk {tid off line col : Nat} {cs : Dk} (hg : T.get H pb = some (one [.NW tid off cs.length 5, .int .i64 (.ofNat s.deep) 0, .int .i64 (.ofNat s.e) 0, .int .i64 (.ofNat line) 0, .int .i64 (.ofNat col) 0]))
  (he : El G H (.NW tid off cs.length 5) 5 cs) (ht : Pw ADi cs (s.t :: s.r)) (hp : s.e ≠ 0 -> 1 <= line /\ 1 <= col) (hl : tid < pb)
section
variable {G : AP} {H H' : Heap} {n n' pb : Nat} {s s' : S} {k : KV}
theorem Vw.same (h : Vw G H pb s) (hs : ∀ id, id <= pb -> T.get H' id = T.get H id) : Vw G H' pb s := by
 cases h with
 | mk hg he ht hp hl => exact .mk ((hs _ (Nat.le_refl _)).trans hg) (he.same fun id hid => by cases hid; exact hs _ (by omega)) ht hp hl
theorem Vw.kp (h : Vw G H pb s) (f : Kp H n H' n') (hb : pb < n) : Vw G H' pb s := h.same fun id hid => f.same id (by omega)
theorem Vw.e (h : Vw G H pb s) : Aa (.ptr pb 2) G H = some (.int .i64 (.ofNat s.e) 0) := by cases h with | mk hg => exact Ad hg rfl
theorem Vw.deep (h : Vw G H pb s) : Aa (.ptr pb 1) G H = some (.int .i64 (.ofNat s.deep) 0) := by cases h with | mk hg => exact Ad hg rfl
theorem Vw.tok (h : Vw G H pb s) : ∃ v tid o line col, Aa (.ptr pb 0) G H = some v /\ BU 5 v (.int .i64 (.ofNat 0) 0) = some (.ptr tid o) /\ 1 <= line /\ 1 <= col /\ Az 5 (.ptr tid o) G H = some (.agg (Pv s.t line col)) /\
    Aa (.ptr tid o) G H = some (.int .i64 (.ofNat s.t.kind) 0) /\ Aa (.ptr tid (o + 1)) G H = some (sB s.t.text) /\ Az 2 (.ptr tid (o + 3)) G H = some (.agg [.int .i64 (.ofNat line) 0, .int .i64 (.ofNat col) 0]) := by
  cases h with
  | mk hg he ht hp hl =>
    rename_i tid off l1 c1 cs
    cases ht with
    | cons h t =>
      rename_i c cs
      obtain ⟨line, col, x1, x2, rfl⟩ := h
      have h2 := AGk he
      have h3 := (Nc _ _ h2).2 0 _ rfl
      rw [Nat.add_zero] at h3
      have sub : ∀ o m, 0 < m -> o + m <= 5 -> ZI H tid (off * 5 + o) m = some (((Pv s.t line col).drop o).take m) := fun o m h1 h2 => AED h3 rfl h1 h2
      refine ⟨_, tid, off * 5, line, col, Ad hg rfl, ?_, x1, x2, ?_, ?_, ?_, ?_⟩
      · show Aq (band (Nat.beq 5 5) (Nat.blt 0 (cs.length + 1))) (CQ ((off + 0) * 5) fun o => some (.ptr tid o)) = _
        rw [show Nat.blt 0 (cs.length + 1) = true by rw [Nat.blt_eq]; omega, BJ]; rfl
      · rw [wS]; show Ku (ZI H tid (off * 5) 5) _ = _; rw [h3]; rfl
      · rw [oM]; show Ku (ZI H tid (off * 5 + 0) 1) _ = _; rw [sub 0 1 (by omega) (by omega)]; rfl
      · rw [oM]; show Ku (ZI H tid (off * 5 + 1) 1) _ = _; rw [sub 1 1 (by omega) (by omega)]; rfl
      · rw [wS]; show Ku (ZI H tid (off * 5 + 3) 2) _ = _; rw [sub 3 2 (by omega) (by omega)]; rfl
theorem AFA (h : Vw G H pb s) (hk : k (.bool s.ok) H n) : Runs F G C9 [.ptr pb 0] H n k := by
 refine BO (s := Dz (Jk lfp G)) PK (by obtain ⟨h, o⟩ := Vs BP G; rw [PK] at h; cases h; exact o) ?_
 show Jk lfp G (Runs F G) (.ptr pb 0) H n k
 delta Jk
 simp only [go_sem, Nat.reduceAdd, h.e, Xq]
 exact hk
theorem AHY {e : Nat} (h : Vw G H pb s) (hk : ∀ H', Kx pb H n H' n -> Vw G H' pb (Fj e s) -> k (.GK []) H' n) : Runs F G Bc [.ptr pb 0, .int .i64 (.ofNat e) 0] H n k := by
 refine BO (s := UA (Hz lfp G)) N9 (by obtain ⟨h, o⟩ := Tt BP G; rw [N9] at h; cases h; exact o) ?_
 show Hz lfp G (Runs F G) (.ptr pb 0) (.int .i64 (.ofNat e) 0) H n k
 delta Hz
 unfold Fj at hk
 simp only [go_sem, Nat.reduceAdd, h.e, Xq]
 rw [show decide (s.e = 0) = s.ok from rfl]
 cases ho : s.ok with
 | false =>
  rw [ho] at hk
  simp only [go_sem]
  exact hk _ (Kx.refl ..) h
 | true =>
  rw [ho] at hk
  obtain ⟨v, tid, o, line, col, e0, e1, x1, x2, e2, e3, e4, e5⟩ := h.tok
  simp only [go_sem, Nat.reduceAdd, Nat.add_zero, e0, e1, e5, AB8]
  cases h with
  | mk hg he ht hp hl =>
   refine Dp hg rfl rfl (by omega) (by show 2 + 3 <= 5; omega) fun H1 g1 s1 => ?_
   exact hk _ ⟨Nat.le_refl _, fun id _ hb => s1 id hb⟩ (.mk g1 (he.same fun id hid => by cases hid; exact s1 _ (by omega)) ht (fun _ => ⟨x1, x2⟩) hl)
def wsC (ws : List Bs) : Dk := ws.map fun w => [sB w]
theorem AEB (ws : List Bs) : (wsC ws).length = ws.length := List.length_map ..
theorem ACN {ws : List Bs} {i : Nat} (h : i < ws.length) : (wsC ws)[i]? = some [sB ws[i]] := by simp [wsC, h]
theorem AQO {ws : List Bs} {v : V} (h : Vw G H pb s) (hv : El G H v 1 (wsC ws)) (hw : ws.length <= 1000) (hk : k (.bool (Oj ws s)) H n) : Runs F G Bv [.ptr pb 0, v] H n k := by
 refine BO (s := UA (Jb lfp G)) PG (by obtain ⟨h, o⟩ := VY BP G; rw [PG] at h; cases h; exact o) ?_
 show Jb lfp G (Runs F G) (.ptr pb 0) v H n k
 delta Jb
 unfold Oj at hk
 simp only [go_sem, hv.len, AEB]
 obtain ⟨w, tid, o, line, col, e0, e1, x1, x2, e2, e3, e4, e5⟩ := h.tok
 obtain ⟨R, hR⟩ : ∃ R, (ws.any fun w => O0 w s) = R := ⟨_, rfl⟩
 rw [hR] at hk
 refine VF (N := ws.length) (J := fun j q => q = (.ptr pb 0, v, .int .i64 (.ofNat ws.length) 0, .int .i64 (.ofNat j) 0, H, n) /\ ((ws.drop j).any fun w => O0 w s) = R) ?_ ?_ ⟨rfl, hR⟩
 ·rintro I j q hlt ⟨rfl, hR⟩ ih
  show Gn lfp G (Runs F G) k I (.ptr pb 0) v (.int .i64 (.ofNat ws.length) 0) (.int .i64 (.ofNat j) 0) H n
  delta Gn
  obtain ⟨p, hp, hld⟩ := hv.at (ACN hlt)
  rw [List.drop_eq_getElem_cons hlt, List.any_cons] at hR
  generalize ws[j] = m at hld hR
  simp only [go_sem, Q8, hlt, decide_true, hp, Y0 hld]
  refine AFA h ?_
  have go1 : O0 m s = false -> I (.ptr pb 0, v, .int .i64 (.ofNat ws.length) 0, .int .i64 (.ofNat (j + 1)) 0, H, n) := fun h1 => by
   rw [h1, Bool.false_or] at hR
   exact ih _ ⟨rfl, hR⟩
  have ej := Kq (show j + 1 < 9223372036854775808 by omega)
  cases h1 : s.ok with
  | false =>
   repeat (first | with_reducible refine AEi ?_ | with_reducible refine ABq ?_ | with_reducible refine AEY ?_)
   simp only [go_sem, ej]
   exact go1 (by simp [O0, h1])
  | true =>
   simp only [go_sem, Nat.reduceAdd, Nat.add_zero, e0, e1, e3, Xq]
   cases h2 : decide (s.t.kind = 1) with
   | true =>
    repeat (first | with_reducible refine AKu ?_ | with_reducible refine ABq ?_)
    simp only [go_sem, Nat.reduceAdd, Nat.add_zero, e0, e1, e4, AE9]
    cases h3 : decide (s.t.text = m) with
    | true =>
     rw [show O0 m s = true by simp [O0, h1, h2, h3], Bool.true_or] at hR
     subst hR
     simp only [go_sem]; exact hk
    | false => simp only [go_sem, ej]; exact go1 (by simp [O0, h3])
   | false =>
    simp only [go_sem, Nat.reduceAdd, Nat.add_zero, e0, e1, e3, Xq]
    cases h4 : decide (s.t.kind = 5) with
    | true =>
     simp only [go_sem, Nat.reduceAdd, Nat.add_zero, e0, e1, e4, AE9]
     cases h3 : decide (s.t.text = m) with
     | true =>
      rw [show O0 m s = true by simp [O0, h1, h4, h3], Bool.true_or] at hR
      subst hR
      simp only [go_sem]; exact hk
     | false => simp only [go_sem, ej]; exact go1 (by simp [O0, h3])
    | false =>
     repeat (first | with_reducible refine AEi ?_ | with_reducible refine ABq ?_ | with_reducible refine AEY ?_ | with_reducible refine AN7 ?_)
     simp only [go_sem, ej]; exact go1 (by simp [O0, h2, h4])
 ·rintro I q ⟨rfl, hR⟩
  show Gn lfp G (Runs F G) k I (.ptr pb 0) v (.int .i64 (.ofNat ws.length) 0) (.int .i64 (.ofNat ws.length) 0) H n
  delta Gn
  rw [List.drop_eq_nil_of_le (Nat.le_refl _)] at hR
  subst hR
  simp only [go_sem, Q8, Nat.lt_irrefl, decide_false]
  delta N7
  exact hk
theorem AFX {l : LV} {i : Nat} {v : V} (h : l[i]? = some v) : AGY i (.agg l) = some v := by
 show nth l i = _
 rw [Yo, h]
structure Fr (G : AP) (pb : Nat) (H0 : Heap) (n0 : Nat) (H : Heap) (n : Nat) (s : S) : Prop where
 f : Kx pb H0 n0 H n
 p : Vw G H pb s
 b : pb < n0
theorem Fr.lt {H0 : Heap} {n0 : Nat} (x : Fr G pb H0 n0 H n s) : pb < n := Nat.lt_of_lt_of_le x.b x.f.le
theorem Fr.le {H0 : Heap} {n0 : Nat} (x : Fr G pb H0 n0 H n s) : n0 <= n := x.f.le
theorem Fr.refl (h : Vw G H pb s) (hb : pb < n) : Fr G pb H n H n s := ⟨Kx.refl .., h, hb⟩
theorem Fr.al {H0 : Heap} {n0 : Nat} (x : Fr G pb H0 n0 H n s) (f : Kp H n H' n') : Fr G pb H0 n0 H' n' s := ⟨x.f.trans f.kx, x.p.kp f x.lt, x.b⟩
theorem Fr.st {H0 : Heap} {n0 b : Nat} (x : Fr G pb H0 n0 H n s) (hb : n0 <= b) (e : ∀ j, j ≠ b -> T.get H' j = T.get H j) : Fr G pb H0 n0 H' n s :=
 ⟨⟨x.f.le, fun id hid hp => (e id (by omega)).trans (x.f.same id hid hp)⟩, x.p.same fun id hid => e id (by have := x.b; omega), x.b⟩
theorem Fr.tr {H0 : Heap} {n0 : Nat} (x : Fr G pb H0 n0 H n s) (y : Fr G pb H n H' n' s') : Fr G pb H0 n0 H' n' s' := ⟨x.f.trans y.f, y.p, x.b⟩
theorem Fr.get {b : Nat} {L : LV} (y : Fr G pb H n H' n' s') (g : T.get H b = some (one L)) (h1 : b < n) (h2 : pb < b) : T.get H' b = some (one L) := y.f.get g h1 (by omega)
theorem CJ {m b : Nat} {L0 L : LV} {P : KV} (g : T.get H b = some (one L0)) (h0 : L0.length = m) (h1 : L.length = m) (hm : 0 < m) (h : ∀ H', T.get H' b = some (one L) -> (∀ j, j ≠ b -> T.get H' j = T.get H j) -> P .undef H' n) :
    Bd m (.ptr b 0) (.agg L) H n P := by
  rw [U0 g hm h0 h1]; exact h _ (T.Ap ..) fun j hj => T.Am _ _ (Ne.symm hj)
theorem Wp (h : Vw G H pb s) (hb : pb < n) (hm : Ko s = some s') (hk : ∀ H' n' line col, 1 <= line -> 1 <= col -> Fr G pb H n H' n' s' -> k (.agg (Pv s.t line col)) H' n') : Runs F G Bh [.ptr pb 0] H n k := by
  refine BO (s := Dz (IC lfp G)) Nz (by obtain ⟨h, o⟩ := TK BP G; rw [Nz] at h; cases h; exact o) ?_
  show IC lfp G (Runs F G) (.ptr pb 0) H n k
  delta IC
  have x := Fr.refl h hb
  refine BA rfl fun H1 f1 g1 => ?_
  have x := x.al f1
  obtain ⟨v, tid, o, line, col, e0, e1, x1, x2, e2, e3, e4, e5⟩ := x.p.tok
  simp only [go_sem, Nat.reduceAdd, Nat.add_zero, e0, e1, e2]
  refine AP5 rfl rfl (by omega) fun H3 f3 g3 => ?_
  have x := x.al f3
  have g1 := f3.get g1 (by omega)
  have q0 : Aa (.ptr (n + 1) 0) G H3 = some (.int .i64 (.ofNat s.t.kind) 0) := Ad g3 rfl
  have fin : ∀ {H4 : Heap}, Fr G pb H n H4 (n + 1 + 1) s' -> T.get H4 n = some (one [.int .i64 (.ofNat 0) 0, .str 0 0, .int .i64 (.ofNat 0) 0, .int .i64 (.ofNat 0) 0, .int .i64 (.ofNat 0) 0]) -> T.get H4 (n + 1) = some (one (Pv s.t line col)) ->
      Ew lfp G (Runs F G) k (.ptr n 0) (.ptr (n + 1) 0) H4 (n + 1 + 1) := by
    intro H4 x g1 g3
    delta Ew
    rw [Au (m := 5) g3 (by omega) rfl, BH]
    refine CJ g1 rfl rfl (by omega) fun H5 g5 s5 => ?_
    rw [BI (m := 5) g5 (by omega) rfl]
    simp only [go_sem]
    exact hk _ _ _ _ x1 x2 (x.st (Nat.le_refl _) s5)
  unfold Ko at hm
  simp only [go_sem, Nat.reduceAdd, q0, eG]
  cases hd : decide (s.t.kind = 0) with
  | true =>
    rw [hd] at hm
    cases hm
    simp only [Bool.not_true, go_sem]
    exact fin x g1 g3
  | false =>
    rw [hd, cond_false] at hm
    simp only [Bool.not_false, go_sem]
    have hp3 := x.p
    cases hp3 with
    | mk hg he ht hp hl =>
      rename_i tid off l1 c1 cs
      cases hr : s.r with
      | nil => rw [hr] at hm; cases hm
      | cons t r =>
        rw [hr] at hm ht
        cases hm
        cases ht with
        | cons ha ht =>
          rename_i a cs
          have e0 : Aa (.ptr pb 0) G H3 = some (.NW tid off (cs.length + 1) 5) := Ad hg rfl
          simp only [go_sem, Nat.reduceAdd, e0, AJZ]
          refine Dp hg rfl rfl (by omega) (by show 0 + 1 <= 5; omega) fun H4 g4 s4 => ?_
          refine fin ⟨⟨x.le, fun id hid hp => (s4 id hp).trans (x.f.same id hid hp)⟩, ?_, hb⟩ ((s4 _ (by omega)).trans g1) ((s4 _ (by omega)).trans g3)
          exact .mk (s := { s with t := t, r := r }) g4 ((AGl he).same fun id hid => by cases fK hid; exact s4 _ (by omega)) ht hp hl
end
end Go.PQ
namespace Go.PQ
open Go.Eng
set_option maxRecDepth 100000
section
variable {G : AP} {H : Heap} {n pb : Nat} {s s' : S} {k : KV}
theorem dM {ws : List Bs} {m : Nat} {P : KV} {Z : LV} (hm : ws.length = m) (h : ∀ H', Kp H n H' (n + 1) -> El G H' (.sl n 0 m m 1) 1 (wsC ws) -> P (.sl n 0 m m 1) H' (n + 1)) : CX (Ah 1 m Z (qx 0 (ws.map sB)) E0) H n P := by
 refine NJ (G := G) (vs := ws.map sB) (by rw [List.length_map]; exact hm) (by omega) (fun v hv => ?_) fun H' f _ hel => h H' f ?_
 ·obtain ⟨w, _, rfl⟩ := List.mem_map.1 hv; exact ⟨rfl, rfl⟩
 ·rw [List.map_map] at hel; exact hel
theorem eu {ws : List Bs} {m : Nat} {P : KV} {Z : LV} (h : Vw G H pb s) (hb : pb < n) (hm : ws.length = m) (hw : ws.length <= 1000) (hk : ∀ H' n', Fr G pb H n H' n' s -> P (.bool (Oj ws s)) H' n') :
    CX (Ah 1 m Z (qx 0 (ws.map sB)) E0) H n fun v H n => Runs F G Bv [.ptr pb 0, v] H n P := by
  refine dM (G := G) hm fun H1 f1 hel => ?_
  have x := (Fr.refl h hb).al f1
  exact AQO x.p hel hw (hk _ _ x)
theorem KO {w : Bs} {b : Bool} (h : Vw G H pb s) (hb : pb < n) (hm : Cc w s = some (b, s')) (hk : ∀ H' n', Fr G pb H n H' n' s' -> k (.bool b) H' n') : Runs F G AZ [.ptr pb 0, sB w] H n k := by
 refine BO (s := UA (IE lfp G)) Nb (by obtain ⟨h, o⟩ := TL BP G; rw [Nb] at h; cases h; exact o) ?_
 show IE lfp G (Runs F G) (.ptr pb 0) (sB w) H n k
 delta IE
 refine eu (ws := [w]) h hb rfl (by show 1 <= 1000; omega) fun H1 n1 x => ?_
 unfold Cc at hm
 rw [show Oj [w] s = O0 w s by simp [Oj]]
 cases ho : O0 w s with
 | false =>
  rw [ho] at hm
  cases hm
  simp only [go_sem, Rn, Bool.not_false]
  exact hk _ _ x
 | true =>
  rw [ho, cond_true, Option.bind_eq_some_iff] at hm
  obtain ⟨s2, h2, hm⟩ := hm
  cases hm
  simp only [go_sem, Rn, Bool.not_true]
  exact Wp x.p x.lt h2 fun H2 n2 _ _ _ _ y => hk _ _ (x.tr y)
theorem AMs {ws : List Bs} {id o l c : Nat} (h : Vw G H pb s) (hb : pb < n) (hv : El G H (.sl id o l c 1) 1 (wsC ws)) (hid : id < n) (hip : pb < id) (hw : ws.length <= 1000) (hm : Ce ws s = some s') (hk : ∀ H' n', Fr G pb H n H' n' s' -> k (.GK []) H' n') :
    Runs F G Ar [.ptr pb 0, .sl id o l c 1] H n k := by
  refine BO (s := UA (Hl lfp G)) Nk (by obtain ⟨h, o⟩ := Sr BP G; rw [Nk] at h; cases h; exact o) ?_
  show Hl lfp G (Runs F G) (.ptr pb 0) (.sl id o l c 1) H n k
  delta Hl
  simp only [hv.len, AEB, go_sem]
  refine VF (N := ws.length) (J := fun j q => ∃ H' n' t, q = (.ptr pb 0, .sl id o l c 1, .int .i64 (.ofNat ws.length) 0, .int .i64 (.ofNat j) 0, H', n') /\ Fr G pb H n H' n' t /\ Ce (ws.drop j) t = some s') ?_ ?_ ⟨H, n, s, rfl, Fr.refl h hb, hm⟩
  · rintro I j q hlt ⟨H1, n1, t, rfl, x, hm⟩ ih
    show Et lfp G (Runs F G) k I (.ptr pb 0) (.sl id o l c 1) (.int .i64 (.ofNat ws.length) 0) (.int .i64 (.ofNat j) 0) H1 n1
    delta Et
    have hv1 : El G H1 (.sl id o l c 1) 1 (wsC ws) := hv.same fun i hi => by cases Gm hi; exact x.f.same id hid (by omega)
    obtain ⟨p, hp, hld⟩ := hv1.at (ACN hlt)
    rw [List.drop_eq_getElem_cons hlt, show ∀ (w : Bs) ws (s : S), Ce (w :: ws) s = (Cc w s).bind fun p => Ce ws (bif p.1 then p.2 else Fj 21 p.2) from fun _ _ _ => rfl, Option.bind_eq_some_iff] at hm
    obtain ⟨⟨b, t2⟩, h2, hm⟩ := hm
    have hm : Ce (ws.drop (j + 1)) (bif b then t2 else Fj 21 t2) = some s' := hm
    generalize ws[j] = m at hld h2
    simp only [go_sem, Q8, hlt, decide_true, hp, Y0 hld]
    refine KO x.p x.lt h2 fun H2 n2 y => ?_
    have x := x.tr y
    simp only [go_sem, Rn]
    cases b with
    | true =>
      simp only [go_sem, Bool.not_true]
      delta FH
      simp only [go_sem, Kq (show j + 1 < 9223372036854775808 by omega)]
      exact ih _ ⟨_, _, _, rfl, x, hm⟩
    | false =>
      simp only [go_sem, Bool.not_false]
      refine AHY x.p fun H3 f3 p3 => ?_
      delta FH
      simp only [go_sem, Kq (show j + 1 < 9223372036854775808 by omega)]
      exact ih _ ⟨_, _, _, rfl, ⟨x.f.trans f3, p3, x.b⟩, hm⟩
  · rintro I q ⟨H1, n1, t, rfl, x, hm⟩
    show Et lfp G (Runs F G) k I (.ptr pb 0) (.sl id o l c 1) (.int .i64 (.ofNat ws.length) 0) (.int .i64 (.ofNat ws.length) 0) H1 n1
    delta Et
    rw [List.drop_eq_nil_of_le (Nat.le_refl _)] at hm
    cases hm
    simp only [go_sem, Q8, Nat.lt_irrefl, decide_false]
    exact hk _ _ x
theorem Iz {ws : List Bs} {m : Nat} {P : KV} {Z : LV} (h : Vw G H pb s) (hb : pb < n) (hm : ws.length = m) (hw : ws.length <= 1000) (he : Ce ws s = some s') (hk : ∀ H' n', Fr G pb H n H' n' s' -> P (.GK []) H' n') :
    CX (Ah 1 m Z (qx 0 (ws.map sB)) E0) H n fun v H n => Runs F G Ar [.ptr pb 0, v] H n P := by
  refine dM (G := G) hm fun H1 f1 hel => ?_
  have x := (Fr.refl h hb).al f1
  exact AMs x.p x.lt hel (by omega) hb hw he fun H2 n2 y => hk _ _ (x.tr y)
theorem Ye {e : Nat} (h : Vw G H pb s) (hb : pb < n) (hk : ∀ H' n', Fr G pb H n H' n' (Fj e s) -> k (.GK []) H' n') : Runs F G Bc [.ptr pb 0, .int .i64 (.ofNat e) 0] H n k :=
 AHY h fun H1 f p => hk _ _ ⟨f, p, hb⟩
theorem XK {kd : Nat} {l : Bs} (h : Vw G H pb s) (hb : pb < n) (hm : Hr kd s = some (l, s')) (hk : ∀ H' n', Fr G pb H n H' n' s' -> k (sB l) H' n') : Runs F G CP [.ptr pb 0, .int .i64 (.ofNat kd) 0] H n k := by
 refine BO (s := UA (Hy lfp G)) OA (by obtain ⟨h, o⟩ := SI BP G; rw [OA] at h; cases h; exact o) ?_
 show Hy lfp G (Runs F G) (.ptr pb 0) (.int .i64 (.ofNat kd) 0) H n k
 delta Hy
 refine AFA h ?_
 unfold Hr at hm
 have bad : Hr kd s = some ([], Fj 21 s) -> Runs F G Bc [.ptr pb 0, .int .i64 (.ofNat 21) 0] H n fun _ H n => k (.str 0 0) H n := fun hb' => by
  unfold Hr at hb'
  rw [hb'] at hm
  cases hm
  exact Ye h hb fun H1 n1 x => hk _ _ x
 have good : (Ko s).bind (fun s' => some (s.t.text, s')) = some (l, s') -> Runs F G Bh [.ptr pb 0] H n fun v14 H n => AU (AGY 1 v14) fun v15 => k v15 H n := fun hm => by
  rw [Option.bind_eq_some_iff] at hm
  obtain ⟨s2, h2, hm⟩ := hm
  cases hm
  refine Wp h hb h2 fun H2 n2 line col _ _ y => ?_
  rw [AFX (show (Pv s.t line col)[1]? = some (sB s.t.text) from rfl), BH]
  exact hk _ _ y
 obtain ⟨v, tid, o, line, col, e0, e1, x1, x2, e2, e3, e4, e5⟩ := h.tok
 cases ho : s.ok with
 | false =>
  simp only [Rn, Bool.not_false, go_sem]
  repeat (first | with_reducible refine AKu ?_ | with_reducible refine ABq ?_)
  exact bad (by unfold Hr; rw [ho]; rfl)
 | true =>
  simp only [Rn, Bool.not_true, go_sem, Nat.reduceAdd, Nat.add_zero, e0, e1, e3, eG]
  cases hd : decide (s.t.kind = kd) with
  | false =>
   simp only [Bool.not_false, go_sem]
   exact bad (by unfold Hr; rw [ho, hd]; rfl)
  | true =>
   rw [ho, hd] at hm
   simp only [Bool.not_true, go_sem]
   exact good hm
theorem yU (h : Vw G H pb s) (hb : pb < n) (hm : Qs s = some s') (hk : ∀ H' n' q, Fr G pb H n H' n' s' -> n <= q -> q < n' -> T.get H' q = some (one [.ptr pb 0]) -> k (.fn CB [] [.ptr q 0]) H' n') : Runs F G Hw [.ptr pb 0] H n k := by
 refine BO (s := Dz (Ho lfp G)) Na (by obtain ⟨h, o⟩ := SQ BP G; rw [Na] at h; cases h; exact o) ?_
 show Ho lfp G (Runs F G) (.ptr pb 0) H n k
 delta Ho
 have x := Fr.refl h hb
 refine AES rfl fun H1 f1 g1 => ?_
 have x := x.al f1
 have g1 : T.get H1 n = some (one [.ptr pb 0]) := g1
 have q1 : Aa (.ptr n 0) G H1 = some (.ptr pb 0) := Ad g1 rfl
 unfold Qs at hm
 cases hd : decide (s.deep < 1000000) with
 | false => rw [hd] at hm; cases hm
 | true =>
  rw [hd, cond_true] at hm
  have hd := of_decide_eq_true hd
  simp only [go_sem, Nat.reduceAdd, q1, x.p.deep, Kq (show s.deep + 1 < 9223372036854775808 by omega)]
  have hp1 := x.p
  cases hp1 with
  | mk hg he ht hp hl =>
   refine Dp hg rfl rfl (by omega) (by show 1 + 1 <= 5; omega) fun H2 g2 s2 => ?_
   have q1 : Aa (.ptr n 0) G H2 = some (.ptr pb 0) := Ad ((s2 n (by omega)).trans g1) rfl
   have p2 : Vw G H2 pb { s with deep := s.deep + 1 } := .mk (s := { s with deep := s.deep + 1 }) g2 (he.same fun id hid => by cases fK hid; exact s2 _ (by omega)) ht hp hl
   have x : Fr G pb H n H2 (n + 1) { s with deep := s.deep + 1 } := ⟨⟨x.le, fun id hid hp => (s2 id hp).trans (x.f.same id hid hp)⟩, p2, hb⟩
   have e2 : Aa (.ptr pb 1) G H2 = some (.int .i64 (.ofNat (s.deep + 1)) 0) := p2.deep
   simp only [go_sem, Nat.reduceAdd, q1, e2, jm]
   cases h100 : decide (100 < s.deep + 1) with
   | false =>
    rw [h100] at hm
    cases hm
    simp only [go_sem]
    delta Eu
    exact hk _ _ n x (Nat.le_refl _) (by omega) ((s2 n (by omega)).trans g1)
   | true =>
    rw [h100] at hm
    cases hm
    simp only [go_sem, q1]
    refine Ye x.p x.lt fun H3 n3 y => ?_
    delta Eu
    exact hk _ _ n (x.tr y) (Nat.le_refl _) (by have := y.le; omega) (y.get ((s2 n (by omega)).trans g1) (by omega) hb)
theorem AJV {q : Nat} {P : Heap -> Nat -> Prop} (h : Vw G H pb s) (hb : pb < n) (hq : T.get H q = some (one [.ptr pb 0])) (hm : bD s = some s') (hk : ∀ H' n', Fr G pb H n H' n' s' -> P H' n') :
    JR 95 (cZ (.GK [.fn CB [] [.ptr q 0]])) (Runs F G) H n P := by
  show Fa (Nat.beq CB 95) (Runs F G CB [.ptr q 0] H n fun _ H n => P H n)
  rw [show Nat.beq CB 95 = true from rfl, aK]
  generalize hk' : (fun _ H n => P H n : KV) = k
  refine BO (s := Dz (Fe lfp G)) DT (by obtain ⟨h, o⟩ := QV BP G; rw [DT] at h; cases h; exact o) ?_
  show Fe lfp G (Runs F G) (.ptr q 0) H n k
  delta Fe
  subst hk'
  unfold bD at hm
  cases hd : s.deep with
  | zero => rw [hd] at hm; cases hm
  | succ d =>
    rw [hd] at hm
    have hm : (bif decide (d < 1000000) then some { s with deep := d } else none) = some s' := hm
    cases hlt : decide (d < 1000000)
    · rw [hlt] at hm; cases hm
    rw [hlt, cond_true] at hm
    have hlt := of_decide_eq_true hlt
    cases hm
    have q1 : Aa (.ptr q 0) G H = some (.ptr pb 0) := Ad hq rfl
    have q2 := h.deep
    rw [hd] at q2
    have hbig : d + 1 < 9223372036854775808 := by omega
    simp only [go_sem, Nat.reduceAdd, q1, q2, ALp hbig]
    cases h with
    | mk hg he ht hp hl =>
      refine Dp hg rfl rfl (by omega) (by show 1 + 1 <= 5; omega) fun H2 g2 s2 => ?_
      exact hk _ _ ⟨⟨Nat.le_refl _, fun id hid hp => s2 id hp⟩, .mk (s := { s with deep := d }) g2 (he.same fun id hid => by cases fK hid; exact s2 _ (by omega)) ht hp hl, hb⟩
def jw (t : Ty) : LV := [sB t.nm, .bool t.arr]
theorem AGP {z0 z1 : V} (l : Bs) : BZ [z0, z1] [(0, 1, .c (sB l))] = some (.agg [sB l, z1]) := rfl
theorem rP {l : Bs} (hk : ∀ H', Kp H n H' (n + 1) -> k (.agg [sB l, .bool false]) H' (n + 1)) : Runs F G jF [sB l] H n k := by
 refine BO (s := Dz (aP lfp G)) nH (by obtain ⟨h, o⟩ := xY BP G; rw [nH] at h; cases h; exact o) ?_
 show aP lfp G (Runs F G) (sB l) H n k
 delta aP
 simp only [go_sem, AGP]
 exact hk _ (((Kp.refl H n).new (m := n + 1) _ (Nat.le_refl _) (by omega)).new _ (Nat.le_refl _) (Nat.le_refl _))
theorem AFE (hk : ∀ H', Kp H n H' (n + 1) -> k (.agg [sB F5, .bool false]) H' (n + 1)) : Runs F G wV [] H n k := by
 refine BO (s := ar0 (Xc lfp G)) gV (by obtain ⟨h, o⟩ := uw BP G; rw [gV] at h; cases h; exact o) ?_
 show Xc lfp G (Runs F G)  H n k
 delta Xc
 simp only [AFZ, go_sem, AGP]
 exact hk _ (((Kp.refl H n).new (m := n + 1) _ (Nat.le_refl _) (by omega)).new _ (Nat.le_refl _) (Nat.le_refl _))
theorem AB0 (hk : ∀ H', Kp H n H' (n + 1) -> k (.agg [sB Ru, .bool false]) H' (n + 1)) : Runs F G uS [] H n k := by
 refine BO (s := ar0 (Vf lfp G)) bH (by obtain ⟨h, o⟩ := ny BP G; rw [bH] at h; cases h; exact o) ?_
 show Vf lfp G (Runs F G)  H n k
 delta Vf
 simp only [AC2, go_sem, AGP]
 exact hk _ (((Kp.refl H n).new (m := n + 1) _ (Nat.le_refl _) (by omega)).new _ (Nat.le_refl _) (Nat.le_refl _))
theorem AAR {m : Nat} (h : Vw G H pb s) (hb : pb < n) (hk : ∀ H' n', Fr G pb H n H' n' (Ht m s) -> k (.GK []) H' n') : Runs F G IB [.ptr pb 0, .int .i64 (.ofNat m) 0] H n k := by
 refine BO (s := UA (HY lfp G)) N8 (by obtain ⟨h, o⟩ := Tn BP G; rw [N8] at h; cases h; exact o) ?_
 show HY lfp G (Runs F G) (.ptr pb 0) (.int .i64 (.ofNat m) 0) H n k
 delta HY
 unfold Ht at hk
 simp only [go_sem, jm]
 cases hd : decide (200 < m) with
 | false => rw [hd] at hk; simp only [go_sem]; exact hk _ _ (Fr.refl h hb)
 | true => rw [hd] at hk; simp only [go_sem]; exact Ye h hb hk
theorem AHT {t : Ty} (h : Vw G H pb s) (hb : pb < n) (hm : ABs s = some (t, s')) (hk : ∀ H' n', Fr G pb H n H' n' s' -> k (.agg (jw t)) H' n') : Runs F G Oe [.ptr pb 0] H n k := by
 refine BO (s := Dz (Hq lfp G)) Nu (by obtain ⟨h, o⟩ := TG BP G; rw [Nu] at h; cases h; exact o) ?_
 show Hq lfp G (Runs F G) (.ptr pb 0) H n k
 delta Hq
 have x := Fr.refl h hb
 refine BA rfl fun H1 f1 g1 => ?_
 have x := x.al f1
 unfold ABs at hm
 rw [Option.bind_eq_some_iff] at hm
 obtain ⟨⟨b, s2⟩, h2, hm⟩ := hm
 have hm : (bif b then some (⟨F5, false⟩, s2) else (Cc Ru s2).bind fun p => bif p.1 then some (⟨Ru, false⟩, p.2) else (Hr 2 p.2).bind fun p => some (⟨p.1, false⟩, p.2)) = some (t, s') := hm
 rw [AFZ, AC2]
 have fin : ∀ {H2 : Heap} {n2 : Nat} {l : Bs}, Fr G pb H n H2 n2 s' -> T.get H2 n = some (one [.str 0 0, .bool false]) -> t = ⟨l, false⟩ -> Bd 2 (.ptr n 0) (.agg [sB l, .bool false]) H2 n2 fun v4 H n_1 => Es (BN [.cn (.ptr n 0) 2] G H) fun l => k (Eh l) H n_1 := by
  intro H2 n2 l x g ht
  subst ht
  refine CJ g rfl rfl (by omega) fun H3 g3 s3 => ?_
  rw [BI (m := 2) g3 (by omega) rfl]
  simp only [go_sem]
  exact hk _ _ (x.st (Nat.le_refl _) s3)
 refine KO x.p x.lt h2 fun H2 n2 y => ?_
 have x := x.tr y
 have g1 := y.get g1 (by omega) hb
 cases b with
 | true =>
  cases hm
  simp only [go_sem]
  exact AFE fun H3 f3 => fin (x.al f3) (f3.get g1 (by have := y.le; omega)) rfl
 | false =>
  rw [cond_false, Option.bind_eq_some_iff] at hm
  obtain ⟨⟨b, s3⟩, h3, hm⟩ := hm
  simp only [go_sem]
  have hn := y.le
  refine KO x.p x.lt h3 fun H3 n3 y => ?_
  have x := x.tr y
  have g1 := y.get g1 (by omega) hb
  have hn2 := y.le
  cases b with
  | true =>
   cases hm
   simp only [go_sem]
   exact AB0 fun H3 f3 => fin (x.al f3) (f3.get g1 (by omega)) rfl
  | false =>
   rw [cond_false, Option.bind_eq_some_iff] at hm
   obtain ⟨⟨l, s4⟩, h4, hm⟩ := hm
   cases hm
   simp only [go_sem]
   refine XK x.p x.lt h4 fun H4 n4 y => ?_
   have x := x.tr y
   have g1 := y.get g1 (by omega) hb
   have hn3 := y.le
   exact rP fun H3 f3 => fin (x.al f3) (f3.get g1 (by omega)) rfl
theorem AD0 {t : Ty} (h : Vw G H pb s) (hb : pb < n) (hm : jU s = some (t, s')) (hk : ∀ H' n', Fr G pb H n H' n' s' -> k (.agg (jw t)) H' n') : Runs F G Ij [.ptr pb 0] H n k := by
 refine BO (s := Dz (Ip lfp G)) Oi (by obtain ⟨h, o⟩ := Uh BP G; rw [Oi] at h; cases h; exact o) ?_
 show Ip lfp G (Runs F G) (.ptr pb 0) H n k
 delta Ip
 have x := Fr.refl h hb
 refine BA rfl fun H1 f1 g1 => ?_
 have x := x.al f1
 unfold jU at hm
 rw [Option.bind_eq_some_iff] at hm
 obtain ⟨⟨t1, s2⟩, h2, hm⟩ := hm
 rw [Option.bind_eq_some_iff] at hm
 obtain ⟨⟨b, s3⟩, h3, hm⟩ := hm
 have hm : (bif b then (Ce [XC] s3).bind fun s => some ((⟨t1.nm, true⟩ : Ty), s) else some (t1, s3)) = some (t, s') := hm
 refine AHT x.p x.lt h2 fun H2 n2 y => ?_
 have x := x.tr y
 have g1 := y.get g1 (by omega) hb
 have hn := y.le
 refine BA rfl fun H3 f3 g3 => ?_
 have x := x.al f3
 have g1 := f3.get g1 (by omega)
 refine CJ (L := jw t1) g3 rfl rfl (by omega) fun H4 g3 s4 => ?_
 have x := x.st (by omega) s4
 have g1 := (s4 n (by omega)).trans g1
 have fin : ∀ {H5 : Heap} {n5 : Nat}, Fr G pb H n H5 n5 s' -> T.get H5 n = some (one [.str 0 0, .bool false]) -> T.get H5 n2 = some (one (jw t)) -> Fv lfp G (Runs F G) k (.ptr n 0) (.ptr n2 0) H5 n5 := by
  intro H5 n5 x g1 g3
  delta Fv
  rw [Au (m := 2) g3 (by omega) rfl, BH]
  refine CJ g1 rfl rfl (by omega) fun H6 g6 s6 => ?_
  rw [BI (m := 2) g6 (by omega) rfl]
  simp only [go_sem]
  exact hk _ _ (x.st (Nat.le_refl _) s6)
 rw [ATF]
 refine KO x.p x.lt h3 fun H5 n5 y => ?_
 have x := x.tr y
 have g1 := y.get g1 (by omega) hb
 have g3 := y.get g3 (by omega) (by omega)
 have hn5 := y.le
 cases b with
 | false =>
  cases hm
  simp only [go_sem]
  exact fin x g1 g3
 | true =>
  rw [cond_true, Option.bind_eq_some_iff] at hm
  obtain ⟨s4, h4, hm⟩ := hm
  cases hm
  simp only [go_sem]
  refine Iz (ws := [XC]) x.p x.lt rfl (by show 1 <= 1000; omega) h4 fun H6 n6 y => ?_
  have x := x.tr y
  have g1 := y.get g1 (by omega) hb
  have g3 := y.get g3 (by omega) (by omega)
  refine Dp g3 rfl rfl (by omega) (by show 1 + 1 <= 2; omega) fun H7 g7 s7 => ?_
  exact fin (x.st (by omega) s7) ((s7 n (by omega)).trans g1) g7
end
end Go.PQ
namespace Go.PQ
open Go.Eng
set_option maxRecDepth 100000
def exC (kind num : Nat) (nm ty : Bs) (arr : Bool) (line col : Nat) (v : V) : LV :=
 [.int .i64 (.ofNat kind) 0, .int .i64 (.ofNat line) 0, .int .i64 (.ofNat col) 0, .int .i64 (.ofNat num) 0, sB nm, sB ty, .bool arr, v, .str 0 0, .bool false, .str 0 0]
mutual
inductive EI (G : AP) (H : Heap) (A : Nat -> Prop) : LV -> Ex -> Prop where
 | mk (kind num : Nat) (nm ty : Bs) (arr : Bool) (line col : Nat) {v : V} {cs : Dk} {kids : List Ex} (he : El G H v 11 cs) (hv : Jz v v = true) (ha : ∀ id, v.Ul = some id -> A id) (hc : V3 G H A cs kids) :
  EI G H A (exC kind num nm ty arr line col v) (.mk kind num nm ty arr kids)
inductive V3 (G : AP) (H : Heap) (A : Nat -> Prop) : Dk -> List Ex -> Prop where
 | nil : V3 G H A [] []
 | cons {c : LV} {e : Ex} {cs : Dk} {es : List Ex} (h : EI G H A c e) (t : V3 G H A cs es) : V3 G H A (c :: cs) (e :: es)
end
mutual
theorem EI.mono {G : AP} {H H' : Heap} {A B : Nat -> Prop} (hA : ∀ id, A id -> B id) (hs : ∀ id, A id -> T.get H' id = T.get H id) : ∀ {c : LV} {e : Ex}, EI G H A c e -> EI G H' B c e
 | _, _, .mk kind num nm ty arr line col he hv ha hc => .mk kind num nm ty arr line col (he.same fun id hid => hs id (ha id hid)) hv (fun id hid => hA id (ha id hid)) (V3.mono hA hs hc)
theorem V3.mono {G : AP} {H H' : Heap} {A B : Nat -> Prop} (hA : ∀ id, A id -> B id) (hs : ∀ id, A id -> T.get H' id = T.get H id) : ∀ {cs : Dk} {es : List Ex}, V3 G H A cs es -> V3 G H' B cs es
 | _, _, .nil => .nil
 | _, _, .cons h t => .cons (EI.mono hA hs h) (V3.mono hA hs t)
end
theorem V3.app {G : AP} {H : Heap} {A : Nat -> Prop} : ∀ {cs : Dk} {es : List Ex} {cs' : Dk} {es' : List Ex}, V3 G H A cs es -> V3 G H A cs' es' -> V3 G H A (cs ++ cs') (es ++ es')
 | _, _, _, _, .nil, h => h
 | _, _, _, _, .cons h t, h' => .cons h (t.app h')
theorem V3.len {G : AP} {H : Heap} {A : Nat -> Prop} : ∀ {cs : Dk} {es : List Ex}, V3 G H A cs es -> cs.length = es.length
 | _, _, .nil => rfl
 | _, _, .cons h t => by simp [t.len]
theorem nS (q : IntKind) (a : Int) : Jz (.int q a 0) (.int q a 0) = true := by simp [Jz, ADn, BR, Rf, Qg]
theorem ACw (l c : Nat) : Jz (.str l c) (.str l c) = true := by simp [Jz, ADZ, BR]
theorem AEG (b : Bool) : Jz (.bool b) (.bool b) = true := by cases b <;> rfl
theorem ZC (a b c d e : Nat) : Jz (.sl a b c d e) (.sl a b c d e) = true := by simp [Jz, AH5, BR]
theorem zS (a b c d : Nat) : Jz (.NW a b c d) (.NW a b c d) = true := by simp [Jz, ADq, BR]
theorem AJ5 : Jz .Ag .Ag = true := rfl
theorem vsL : ∀ L : LV, (∀ v ∈ L, Jz v v = true) -> lQ L L = true
 | [], _ => rfl
 | v :: L, h => by
  show band (Jz v v) (lQ L L) = true
  rw [h v (List.mem_cons_self ..), vsL L fun w hw => h w (List.mem_cons_of_mem _ hw)]; rfl
theorem zO {L : LV} (h : ∀ v ∈ L, Jz v v = true) : Bz (.agg L) (.agg L) = true := vsL L h
theorem Ua (line col : Nat) : Bz (.agg [.int .i64 (.ofNat line) 0, .int .i64 (.ofNat col) 0]) (.agg [.int .i64 (.ofNat line) 0, .int .i64 (.ofNat col) 0]) = true :=
 zO fun v hv => by simp at hv; rcases hv with rfl | rfl <;> exact nS ..
theorem oK (l : Bs) : Bz (sB l) (sB l) = true := ACw ..
section
variable {G : AP} {H : Heap} {A : Nat -> Prop} {c : LV} {e : Ex}
theorem EI.len (h : EI G H A c e) : c.length = 11 := by cases h; rfl
theorem EI.kd (h : EI G H A c e) : c[0]? = some (.int .i64 (.ofNat e.kind) 0) := by cases h; rfl
theorem EI.vs (h : EI G H A c e) : Bz (.agg c) (.agg c) = true := by
 cases h with
 | mk kind num nm ty arr line col he hv ha hc =>
  refine zO fun v hv' => ?_
  simp only [exC, List.mem_cons, List.not_mem_nil, or_false] at hv'
  rcases hv' with rfl | rfl | rfl | rfl | rfl | rfl | rfl | rfl | rfl | rfl | rfl <;> first | exact nS .. | exact ACw .. | exact AEG .. | exact hv
end
def Rg (a b : Nat) : Nat -> Prop := fun id => a <= id /\ id < b
def Al (a b x : Nat) : Nat -> Prop := fun id => a < id /\ id < b /\ id ≠ x
theorem Dx {v : V} {P : Prop} (h : Bz v v = true) (hp : P) : Fa (Bz v v) P := by rw [h]; exact hp
abbrev vN : LV := [.int .i64 (.ofNat 0) 0, .int .i64 (.ofNat 0) 0, .int .i64 (.ofNat 0) 0, .int .i64 (.ofNat 0) 0, .str 0 0, .str 0 0, .bool false, .Ag, .str 0 0, .bool false, .str 0 0]
def ExK (G : AP) (pb : Nat) (H : Heap) (n : Nat) (s' : S) (e : Ex) (k : KV) : Prop := ∀ H' n' c, Fr G pb H n H' n' s' -> EI G H' (Rg n n') c e -> k (.agg c) H' n'
def Bxs (H : Heap) (n pb : Nat) (bs : List Nat) : Prop := ∀ b ∈ bs, pb < b /\ b < n /\ T.get H b = some (one [.ptr pb 0])
theorem Bxs.fr {G : AP} {H H' : Heap} {n n' pb : Nat} {s' : S} {bs : List Nat} (h : Bxs H n pb bs) (y : Fr G pb H n H' n' s') : Bxs H' n' pb bs := fun b hb => by
 obtain ⟨h1, h2, h3⟩ := h b hb
 exact ⟨h1, Nat.lt_of_lt_of_le h2 y.le, y.get h3 h2 h1⟩
theorem Bxs.nil {H : Heap} {n pb : Nat} : Bxs H n pb [] := fun _ h => by cases h
def FnC (G : AP) (pb : Nat) (bs : List Nat) (m : PM Ex) (v : V) : Prop := ∀ (s : S) (H : Heap) (n : Nat) (s' : S) (e : Ex) (k : KV), Vw G H pb s -> pb < n -> Bxs H n pb bs -> m s = some (e, s') -> ExK G pb H n s' e k -> Vl v [] (Runs F G) H n k
theorem AC5 {kd : Nat} {x y : V} {id o l c : Nat} : BZ vN [(0, 1, .c (.int .i64 (.ofNat kd) 0)), (1, 2, .c (.agg [x, y])), (7, 1, .c (.sl id o l c 11))] =
    some (.agg [.int .i64 (.ofNat kd) 0, x, y, .int .i64 (.ofNat 0) 0, .str 0 0, .str 0 0, .bool false, .sl id o l c 11, .str 0 0, .bool false, .str 0 0]) := rfl
section
variable {G : AP} {H : Heap} {n pb : Nat} {s s' : S} {k : KV}
theorem gK {H0 H : Heap} {n0 n r b : Nat} {c L0 : LV} {e : Ex} {A : Nat -> Prop} (x : Fr G pb H0 n0 H n s') (gr : T.get H r = some (one L0)) (hl : L0.length = 11) (gb : T.get H b = some (one c)) (hr : n0 <= r) (he : EI G H A c e)
    (hA : ∀ id, A id -> n0 <= id /\ id < n /\ id ≠ r) (hk : ExK G pb H0 n0 s' e k) :
    AU (Az 11 (.ptr b 0) G H) fun v6 => Bd 11 (.ptr r 0) v6 H n fun _ H n => Es (BN [.cn (.ptr r 0) 11] G H) fun l => k (Eh l) H n := by
  rw [Au (m := 11) gb (by omega) he.len, BH]
  refine CJ gr hl he.len (by omega) fun H1 g1 s1 => ?_
  rw [BI (m := 11) g1 (by omega) he.len]
  simp only [go_sem]
  exact hk _ _ _ (x.st hr s1) (he.mono (fun id h => ⟨(hA id h).1, (hA id h).2.1⟩) fun id h => s1 id (hA id h).2.2)
theorem AA3 {bs : List Nat} {m : PM Ex} {v : V} {kd f : Nat} {w : Bs} {e : Ex} (hf : FnC G pb bs m v) (hbs : Bxs H n pb bs) (h : Vw G H pb s) (hb : pb < n) (hm : either kd w m f s = some (e, s')) (hk : ExK G pb H n s' e k) :
    Runs F G MJ [.ptr pb 0, .int .i64 (.ofNat kd) 0, sB w, v] H n k := by
  refine BO (s := ar4 (Fz lfp G)) LM (by obtain ⟨h, o⟩ := QO BP G; rw [LM] at h; cases h; exact o) ?_
  show Fz lfp G (Runs F G) (.ptr pb 0) (.int .i64 (.ofNat kd) 0) (sB w) v H n k
  delta Fz
  have x := Fr.refl h hb
  refine BA rfl fun H1 f1 g1 => ?_
  have x := x.al f1
  unfold either at hm
  rw [Option.bind_eq_some_iff] at hm
  obtain ⟨⟨e1, s1⟩, h1, hm⟩ := hm
  have hm : dK kd w m f e1 s1 = some (e, s') := hm
  refine hf s H1 (n + 1) s1 e1 _ x.p x.lt (hbs.fr x) h1 fun H2 n2 c y hx => ?_
  have x := x.tr y
  have g1 := y.get g1 (by omega) hb
  have hn2 := y.le
  refine BA rfl fun H3 f3 g3 => ?_
  have x := x.al f3
  have g1 := f3.get g1 (by omega)
  refine CJ g3 rfl hx.len (by omega) fun H4 g4 s4 => ?_
  have x := x.st (by omega) s4
  have g1 := (s4 n (by omega)).trans g1
  have hx : EI G H4 (Al n (n2 + 1) n2) c e1 := hx.mono (fun id h => ⟨by have := h.1; omega, by have := h.2; omega, by have := h.2; omega⟩) fun id h => (s4 id (by have := h.2; omega)).trans (f3.same id h.2)
  refine KY (J := fun g q => ∃ H' n' t c e1, q = (.ptr pb 0, .int .i64 (.ofNat kd) 0, sB w, v, .ptr n 0, .ptr n2 0, H', n') /\ Fr G pb H n H' n' t /\ n2 < n' /\ T.get H' n = some (one vN) /\ T.get H' n2 = some (one c) /\ EI G H' (Al n n' n2) c e1 /\ dK kd w m g e1 t = some (e, s')) ?_ (m := f)
    ⟨H4, n2 + 1, s1, c, e1, rfl, x, by omega, g1, g4, hx, hm⟩
  rintro I g q ⟨H5, n5, t, c, e1, rfl, x, hn5, g1, g4, hx, hm⟩ ih
  show Jr lfp G (Runs F G) k I (.ptr pb 0) (.int .i64 (.ofNat kd) 0) (sB w) v (.ptr n 0) (.ptr n2 0) H5 n5
  delta Jr
  cases g with
  | zero => cases hm
  | succ g =>
    have hm : (bif Oj [w] t then (Ko t).bind fun s1 => (m s1).bind fun p => dK kd w m g (.mk kd 0 [] [] false [e1, p.1]) p.2 else some (e1, t)) = some (e, s') := hm
    refine eu (ws := [w]) x.p x.lt rfl (by show 1 <= 1000; omega) fun H6 n6 y => ?_
    have x := x.tr y
    have hn6 := y.le
    have g1 := y.get g1 (by omega) hb
    have g4 := y.get g4 (by omega) (by omega)
    have hx : EI G H6 (Al n n6 n2) c e1 := hx.mono (fun id h => ⟨h.1, by have := h.2.1; omega, h.2.2⟩) fun id h => y.f.same id h.2.1 (by have := h.1; omega)
    cases hi : Oj [w] t with
    | false =>
      rw [hi] at hm
      cases hm
      simp only [go_sem]
      delta Jp
      exact gK x g1 rfl g4 (Nat.le_refl _) hx (fun id h => ⟨by have := h.1; omega, h.2.1, by have := h.1; omega⟩) hk
    | true =>
      rw [hi, cond_true, Option.bind_eq_some_iff] at hm
      obtain ⟨t1, h1, hm⟩ := hm
      rw [Option.bind_eq_some_iff] at hm
      obtain ⟨⟨e2, t2⟩, h2, hm⟩ := hm
      rw [CS]
      refine Wp x.p x.lt h1 fun H7 n7 line col _ _ y => ?_
      have x := x.tr y
      have hn7 := y.le
      have g1 := y.get g1 (by omega) hb
      have g4 := y.get g4 (by omega) (by omega)
      have hx : EI G H7 (Al n n7 n2) c e1 := hx.mono (fun id h => ⟨h.1, by have := h.2.1; omega, h.2.2⟩) fun id h => y.f.same id h.2.1 (by have := h.1; omega)
      rw [show ANR 3 2 (.agg (Pv t.t line col)) = some (.agg [.int .i64 (.ofNat line) 0, .int .i64 (.ofNat col) 0]) from rfl, BH]
      refine BA rfl fun H8 f8 g8 => ?_
      have x := x.al f8
      refine CJ g8 rfl (L := [.int .i64 (.ofNat line) 0, .int .i64 (.ofNat col) 0]) rfl (by omega) fun H9 g9 s9 => ?_
      have x := x.st (by omega) s9
      have g1 := (s9 n (by omega)).trans (f8.get g1 (by omega))
      have g4 := (s9 n2 (by omega)).trans (f8.get g4 (by omega))
      have hx : EI G H9 (Al n n7 n2) c e1 := hx.mono (fun id h => h) fun id h => (s9 id (by have := h.2.1; omega)).trans (f8.same id h.2.1)
      rw [Au (m := 2) g9 (by omega) rfl, BH, Au (m := 11) g4 (by omega) hx.len, BH]
      refine hf _ H9 (n7 + 1) _ _ _ x.p x.lt (hbs.fr x) h2 fun H10 n10 c2 y hx2 => ?_
      have x := x.tr y
      have hn10 := y.le
      have g1 := y.get g1 (by omega) hb
      have g4 := y.get g4 (by omega) (by omega)
      have g9 := y.get g9 (by omega) (by omega)
      rw [Au (m := 2) g9 (by omega) rfl, BH, Au (m := 11) g4 (by omega) hx.len]
      refine Dx (Ua ..) (Dx hx.vs ?_)
      refine NJ (G := G) (vs := [.agg c, .agg c2]) rfl (by omega) (fun v hv => by simp at hv; rcases hv with rfl | rfl; exact ⟨rfl, hx.len⟩; exact ⟨rfl, hx2.len⟩) fun H11 f11 _ hel => ?_
      have x := x.al f11
      have g1 := f11.get g1 (by omega)
      have g4 := f11.get g4 (by omega)
      rw [AC5, BH]
      refine CJ g4 hx.len rfl (by omega) fun H12 g12 s12 => ?_
      have x := x.st (by omega) s12
      refine ih g _ (by omega) ⟨H12, n10 + 1, t2, _, .mk kd 0 [] [] false [e1, e2], rfl, x, by omega, (s12 n (by omega)).trans g1, g12, ?_, hm⟩
      refine .mk kd 0 [] [] false line col (hel.same fun id hid => s12 id (by cases Gm hid; omega)) (ZC ..) (fun id hid => ⟨by cases Gm hid; omega, by cases Gm hid; omega, by cases Gm hid; omega⟩) ?_
      refine .cons (hx.mono (fun id h => ⟨h.1, by have := h.2.1; omega, h.2.2⟩) fun id h => ?_) (.cons (hx2.mono (fun id h => ⟨by have := h.1; omega, by have := h.2; omega, by have := h.1; omega⟩) fun id h => ?_) .nil)
      · have h1 := h.1; have h2 := h.2.1
        exact (s12 id h.2.2).trans ((f11.same id (by omega)).trans (y.f.same id (by omega) (by omega)))
      · have h1 := h.1; have h2 := h.2
        exact (s12 id (by omega)).trans (f11.same id h2)
end
end Go.PQ
namespace Go.PQ
open Go.Eng
set_option maxRecDepth 100000
theorem zQ {kd : Nat} {x y : V} {nm : Bs} {id o l c : Nat} : BZ vN [(0, 1, .c (.int .i64 (.ofNat kd) 0)), (1, 2, .c (.agg [x, y])), (4, 1, .c (sB nm)), (7, 1, .c (.sl id o l c 11))] =
    some (.agg [.int .i64 (.ofNat kd) 0, x, y, .int .i64 (.ofNat 0) 0, sB nm, .str 0 0, .bool false, .sl id o l c 11, .str 0 0, .bool false, .str 0 0]) := rfl
section
variable {G : AP} {H : Heap} {n pb : Nat} {s s' : S} {k : KV}
theorem ACk {H0 H : Heap} {n0 n r : Nat} {c L0 : LV} {e : Ex} {A : Nat -> Prop} (x : Fr G pb H0 n0 H n s') (gr : T.get H r = some (one L0)) (hl : L0.length = 11) (hr : n0 <= r) (he : EI G H A c e)
    (hA : ∀ id, A id -> n0 <= id /\ id < n /\ id ≠ r) (hk : ExK G pb H0 n0 s' e k) :
    Bd 11 (.ptr r 0) (.agg c) H n fun _ H n => Es (BN [.cn (.ptr r 0) 11] G H) fun l => k (Eh l) H n := by
  refine CJ gr hl he.len (by omega) fun H1 g1 s1 => ?_
  rw [BI (m := 11) g1 (by omega) he.len]
  simp only [go_sem]
  exact hk _ _ _ (x.st hr s1) (he.mono (fun id h => ⟨(hA id h).1, (hA id h).2.1⟩) fun id h => s1 id (hA id h).2.2)
theorem ADY {bs : List Nat} {ws : List Bs} {m : PM Ex} {v : V} {i o l cp f : Nat} {e : Ex} (hf : FnC G pb bs m v) (hbs : Bxs H n pb bs) (hv : El G H (.sl i o l cp 1) 1 (wsC ws)) (hin : i < n) (hip : pb < i) (hw : ws.length <= 1000)
    (h : Vw G H pb s) (hb : pb < n) (hm : signs ws m f s = some (e, s')) (hk : ExK G pb H n s' e k) :
    Runs F G OB [.ptr pb 0, v, .sl i o l cp 1] H n k := by
  refine BO (s := ar3 (Gl lfp G)) MR (by obtain ⟨h, o⟩ := Qu BP G; rw [MR] at h; cases h; exact o) ?_
  show Gl lfp G (Runs F G) (.ptr pb 0) v (.sl i o l cp 1) H n k
  delta Gl
  have x := Fr.refl h hb
  refine BA rfl fun H1 f1 g1 => ?_
  have x := x.al f1
  unfold signs at hm
  rw [Option.bind_eq_some_iff] at hm
  obtain ⟨⟨e1, s1⟩, h1, hm⟩ := hm
  have hm : nD ws m f e1 s1 = some (e, s') := hm
  refine hf s H1 (n + 1) s1 e1 _ x.p x.lt (hbs.fr x) h1 fun H2 n2 c y hx => ?_
  have x := x.tr y
  have g1 := y.get g1 (by omega) hb
  have hn2 := y.le
  refine BA rfl fun H3 f3 g3 => ?_
  have x := x.al f3
  have g1 := f3.get g1 (by omega)
  refine CJ g3 rfl hx.len (by omega) fun H4 g4 s4 => ?_
  have x := x.st (by omega) s4
  have g1 := (s4 n (by omega)).trans g1
  have hx : EI G H4 (Al n (n2 + 1) n2) c e1 := hx.mono (fun id h => ⟨by have := h.1; omega, by have := h.2; omega, by have := h.2; omega⟩) fun id h => (s4 id (by have := h.2; omega)).trans (f3.same id h.2)
  refine KY (J := fun g q => ∃ H' n' t c e1, q = (.ptr pb 0, v, .sl i o l cp 1, .ptr n 0, .ptr n2 0, H', n') /\ Fr G pb H n H' n' t /\ n2 < n' /\ T.get H' n = some (one vN) /\ T.get H' n2 = some (one c) /\ EI G H' (Al n n' n2) c e1 /\ nD ws m g e1 t = some (e, s')) ?_ (m := f)
    ⟨H4, n2 + 1, s1, c, e1, rfl, x, by omega, g1, g4, hx, hm⟩
  rintro I g q ⟨H5, n5, t, c, e1, rfl, x, hn5, g1, g4, hx, hm⟩ ih
  show KU lfp G (Runs F G) k I (.ptr pb 0) v (.sl i o l cp 1) (.ptr n 0) (.ptr n2 0) H5 n5
  delta KU
  cases g with
  | zero => cases hm
  | succ g =>
    have hm : (bif Oj ws t then (Ko t).bind fun s1 => (m s1).bind fun p => nD ws m g (.mk 16 0 t.t.text [] false [e1, p.1]) p.2 else some (e1, t)) = some (e, s') := hm
    refine AQO x.p (hv.same fun j hj => by cases Gm hj; exact x.f.same _ hin (by omega)) hw ?_
    cases hi : Oj ws t with
    | false =>
      rw [hi] at hm
      cases hm
      rw [CG]
      delta KJ
      exact gK x g1 rfl g4 (Nat.le_refl _) hx (fun id h => ⟨by have := h.1; omega, h.2.1, by have := h.1; omega⟩) hk
    | true =>
      rw [hi, cond_true, Option.bind_eq_some_iff] at hm
      obtain ⟨t1, h1, hm⟩ := hm
      rw [Option.bind_eq_some_iff] at hm
      obtain ⟨⟨e2, t2⟩, h2, hm⟩ := hm
      rw [CS]
      refine Wp x.p x.lt h1 fun H7 n7 line col _ _ y => ?_
      have x := x.tr y
      have hn7 := y.le
      have g1 := y.get g1 (by omega) hb
      have g4 := y.get g4 (by omega) (by omega)
      have hx : EI G H7 (Al n n7 n2) c e1 := hx.mono (fun id h => ⟨h.1, by have := h.2.1; omega, h.2.2⟩) fun id h => y.f.same id h.2.1 (by have := h.1; omega)
      refine BA rfl fun H8 f8 g8 => ?_
      have x := x.al f8
      refine CJ g8 rfl (L := Pv t.t line col) rfl (by omega) fun H9 g9 s9 => ?_
      have x := x.st (by omega) s9
      have g1 := (s9 n (by omega)).trans (f8.get g1 (by omega))
      have g4 := (s9 n2 (by omega)).trans (f8.get g4 (by omega))
      have hx : EI G H9 (Al n n7 n2) c e1 := hx.mono (fun id h => h) fun id h => (s9 id (by have := h.2.1; omega)).trans (f8.same id h.2.1)
      rw [Aj, BH, Aj]
      simp only [Nat.zero_add]
      rw [Je (m := 2) (o := 3) g9 (by omega) (by show 3 + 2 <= 5; omega), BH, BH, Ad (off := 1) g9 (v := sB t.t.text) rfl, BH, Au (m := 11) g4 (by omega) hx.len, BH]
      refine hf _ H9 (n7 + 1) _ _ _ x.p x.lt (hbs.fr x) h2 fun H10 n10 c2 y hx2 => ?_
      have x := x.tr y
      have hn10 := y.le
      have g1 := y.get g1 (by omega) hb
      have g4 := y.get g4 (by omega) (by omega)
      have g9 := y.get g9 (by omega) (by omega)
      rw [Je (m := 2) (o := 3) g9 (by omega) (by show 3 + 2 <= 5; omega), BH, Ad (off := 1) g9 (v := sB t.t.text) rfl, BH, Au (m := 11) g4 (by omega) hx.len]
      refine Dx (Ua ..) (Dx (oK _) (Dx hx.vs ?_))
      refine NJ (G := G) (vs := [.agg c, .agg c2]) rfl (by omega) (fun v hv => by simp at hv; rcases hv with rfl | rfl; exact ⟨rfl, hx.len⟩; exact ⟨rfl, hx2.len⟩) fun H11 f11 _ hel => ?_
      have x := x.al f11
      have g1 := f11.get g1 (by omega)
      have g4 := f11.get g4 (by omega)
      refine (show ∀ {P : V -> Prop}, P _ -> AU (BZ vN [(0, 1, .c (.int .i64 (.ofNat 16) 0)), (1, 2, .c (.agg [.int .i64 (.ofNat line) 0, .int .i64 (.ofNat col) 0])), (4, 1, .c (sB t.t.text)), (7, 1, .c (.sl n10 0 2 2 11))]) P from fun h => by rw [zQ]; exact h) ?_
      refine CJ g4 hx.len rfl (by omega) fun H12 g12 s12 => ?_
      have x := x.st (by omega) s12
      refine ih g _ (by omega) ⟨H12, n10 + 1, t2, _, .mk 16 0 t.t.text [] false [e1, e2], rfl, x, by omega, (s12 n (by omega)).trans g1, g12, ?_, hm⟩
      refine .mk 16 0 t.t.text [] false line col (hel.same fun id hid => s12 id (by cases Gm hid; omega)) (ZC ..) (fun id hid => ⟨by cases Gm hid; omega, by cases Gm hid; omega, by cases Gm hid; omega⟩) ?_
      refine .cons (hx.mono (fun id h => ⟨h.1, by have := h.2.1; omega, h.2.2⟩) fun id h => ?_) (.cons (hx2.mono (fun id h => ⟨by have := h.1; omega, by have := h.2; omega, by have := h.1; omega⟩) fun id h => ?_) .nil)
      · have h1 := h.1; have h2 := h.2.1
        exact (s12 id h.2.2).trans ((f11.same id (by omega)).trans (y.f.same id (by omega) (by omega)))
      · have h1 := h.1; have h2 := h.2
        exact (s12 id (by omega)).trans (f11.same id h2)
end
end Go.PQ
namespace Go.PQ
open Go.Eng
set_option maxRecDepth 100000
section
variable {G : AP} {pb : Nat}
theorem one1 {H : Heap} {n b : Nat} (h : Bxs H n pb [b]) : pb < b /\ b < n /\ T.get H b = some (one [.ptr pb 0]) := h b (List.mem_cons_self ..)
theorem ANf {un : PM Ex} {f b : Nat} (hf : FnC G pb [] un (.fn Bl [.ptr pb 0] [])) : FnC G pb [b] (signs [XL, SA, oZ] un f) (.fn IK [] [.ptr b 0]) := by
 intro s H n s' e k h hb hbs hm hk
 rw [dW]
 show Runs F G IK [.ptr b 0] H n k
 refine BO (s := Dz (Dq lfp G)) Gz (by obtain ⟨h, o⟩ := MB BP G; rw [Gz] at h; cases h; exact o) ?_
 show Dq lfp G (Runs F G) (.ptr b 0) H n k
 delta Dq
 obtain ⟨b1, b2, b3⟩ := one1 hbs
 have x := Fr.refl h hb
 refine BA rfl fun H1 f1 g1 => ?_
 have x := x.al f1
 have b3 := f1.get b3 b2
 have q : Aa (.ptr b 0) G H1 = some (.ptr pb 0) := Ad b3 rfl
 rw [q, BH, BH]
 refine dM (G := G) (ws := [XL, SA, oZ]) rfl fun H2 f2 hel => ?_
 have x := x.al f2
 have g1 := f2.get g1 (by omega)
 refine ADY hf Bxs.nil hel (by omega) (by omega) (by show 3 <= 1000; omega) x.p x.lt hm fun H3 n3 c y hx => ?_
 have hn := y.le
 exact ACk (x.tr y) (y.get g1 (by omega) hb) rfl (Nat.le_refl _) hx (fun id h => ⟨by have := h.1; omega, h.2, by have := h.1; omega⟩) hk
theorem AKi {un : PM Ex} {f b : Nat} (hf : FnC G pb [] un (.fn Bl [.ptr pb 0] [])) : FnC G pb [b] (sumP un f) (.fn FY [] [.ptr b 0]) := by
 intro s H n s' e k h hb hbs hm hk
 rw [dW]
 show Runs F G FY [.ptr b 0] H n k
 refine BO (s := Dz (EF lfp G)) Ii (by obtain ⟨h, o⟩ := Ns BP G; rw [Ii] at h; cases h; exact o) ?_
 show EF lfp G (Runs F G) (.ptr b 0) H n k
 delta EF
 obtain ⟨b1, b2, b3⟩ := one1 hbs
 have x := Fr.refl h hb
 refine BA rfl fun H1 f1 g1 => ?_
 have x := x.al f1
 have b3 := f1.get b3 b2
 have q : Aa (.ptr b 0) G H1 = some (.ptr pb 0) := Ad b3 rfl
 rw [q, BH]
 refine dM (G := G) (ws := [bP, CO]) rfl fun H2 f2 hel => ?_
 have x := x.al f2
 have g1 := f2.get g1 (by omega)
 refine ADY (ANf hf) (fun j hj => by simp at hj; subst hj; exact ⟨b1, by omega, f2.get b3 (by omega)⟩) hel (by omega) (by omega) (by show 2 <= 1000; omega) x.p x.lt hm fun H3 n3 c y hx => ?_
 have hn := y.le
 exact ACk (x.tr y) (y.get g1 (by omega) hb) rfl (Nat.le_refl _) hx (fun id h => ⟨by have := h.1; omega, h.2, by have := h.1; omega⟩) hk
theorem ACP {un : PM Ex} {f : Nat} (hf : FnC G pb [] un (.fn Bl [.ptr pb 0] [])) : FnC G pb [] (compared un f) (.fn KR [.ptr pb 0] []) := by
 intro s H n s' e k h hb hbs hm hk
 rw [dW]
 show Runs F G KR [.ptr pb 0] H n k
 refine BO (s := Dz (Ej lfp G)) Ju (by obtain ⟨h, o⟩ := Ot BP G; rw [Ju] at h; cases h; exact o) ?_
 show Ej lfp G (Runs F G) (.ptr pb 0) H n k
 delta Ej
 unfold compared at hm
 rw [Option.bind_eq_some_iff] at hm
 obtain ⟨⟨e1, t⟩, h1, hm⟩ := hm
 have hm : (bif Oj [YH, kY, Vb, kG] t then (Ko t).bind fun s1 => (sumP un f s1).bind fun q => some (.mk 16 0 t.t.text [] false [e1, q.1], q.2) else some (e1, t)) = some (e, s') := hm
 have x := Fr.refl h hb
 refine AES rfl fun H0 f0 g0 => ?_
 have x := x.al f0
 have g0 : T.get H0 n = some (one [.ptr pb 0]) := g0
 refine BA rfl fun H1 f1 g1 => ?_
 have x := x.al f1
 have g0 := f1.get g0 (by omega)
 refine AKi (b := n) hf _ H1 (n + 1 + 1) _ _ _ x.p x.lt (fun j hj => by simp at hj; subst hj; exact ⟨hb, by omega, g0⟩) h1 fun H2 n2 c y hx => ?_
 have x := x.tr y
 have g0 := y.get g0 (by omega) hb
 have g1 := y.get g1 (by omega) (by omega)
 have hn2 := y.le
 refine BA rfl fun H3 f3 g3 => ?_
 have x := x.al f3
 have g0 := f3.get g0 (by omega)
 have g1 := f3.get g1 (by omega)
 refine CJ g3 rfl hx.len (by omega) fun H4 g4 s4 => ?_
 have x := x.st (by omega) s4
 have g0 := (s4 n (by omega)).trans g0
 have g1 := (s4 (n + 1) (by omega)).trans g1
 have hx : EI G H4 (Al (n + 1) (n2 + 1) n2) c e1 := hx.mono (fun id h => ⟨by have := h.1; omega, by have := h.2; omega, by have := h.2; omega⟩) fun id h => (s4 id (by have := h.2; omega)).trans (f3.same id h.2)
 have q : Aa (.ptr n 0) G H4 = some (.ptr pb 0) := Ad g0 rfl
 rw [q, BH]
 refine eu (ws := [YH, kY, Vb, kG]) x.p x.lt rfl (by show 4 <= 1000; omega) fun H6 n6 y => ?_
 have x := x.tr y
 have hn6 := y.le
 have g0 := y.get g0 (by omega) hb
 have g1 := y.get g1 (by omega) (by omega)
 have g4 := y.get g4 (by omega) (by omega)
 have hx : EI G H6 (Al (n + 1) n6 n2) c e1 := hx.mono (fun id h => ⟨h.1, by have := h.2.1; omega, h.2.2⟩) fun id h => y.f.same id h.2.1 (by have := h.1; omega)
 cases hi : Oj [YH, kY, Vb, kG] t with
 | false =>
  rw [hi] at hm
  cases hm
  rw [CG]
  delta D7
  exact gK x g1 rfl g4 (by omega) hx (fun id h => ⟨by have := h.1; omega, h.2.1, by have := h.1; omega⟩) hk
 | true =>
  rw [hi, cond_true, Option.bind_eq_some_iff] at hm
  obtain ⟨t1, h1, hm⟩ := hm
  rw [Option.bind_eq_some_iff] at hm
  obtain ⟨⟨e2, t2⟩, h2, hm⟩ := hm
  cases hm
  have q : Aa (.ptr n 0) G H6 = some (.ptr pb 0) := Ad g0 rfl
  rw [CS, q, BH]
  refine Wp x.p x.lt h1 fun H7 n7 line col _ _ y => ?_
  have x := x.tr y
  have hn7 := y.le
  have g0 := y.get g0 (by omega) hb
  have g1 := y.get g1 (by omega) (by omega)
  have g4 := y.get g4 (by omega) (by omega)
  have hx : EI G H7 (Al (n + 1) n7 n2) c e1 := hx.mono (fun id h => ⟨h.1, by have := h.2.1; omega, h.2.2⟩) fun id h => y.f.same id h.2.1 (by have := h.1; omega)
  refine BA rfl fun H8 f8 g8 => ?_
  have x := x.al f8
  refine CJ g8 rfl (L := Pv t.t line col) rfl (by omega) fun H9 g9 s9 => ?_
  have x := x.st (by omega) s9
  have g0 := (s9 n (by omega)).trans (f8.get g0 (by omega))
  have g1 := (s9 (n + 1) (by omega)).trans (f8.get g1 (by omega))
  have g4 := (s9 n2 (by omega)).trans (f8.get g4 (by omega))
  have hx : EI G H9 (Al (n + 1) n7 n2) c e1 := hx.mono (fun id h => h) fun id h => (s9 id (by have := h.2.1; omega)).trans (f8.same id h.2.1)
  rw [Aj, BH, Aj]
  simp only [Nat.zero_add]
  rw [Je (m := 2) (o := 3) g9 (by omega) (by show 3 + 2 <= 5; omega), BH, BH, Ad (off := 1) g9 (v := sB t.t.text) rfl, BH, Au (m := 11) g4 (by omega) hx.len, BH]
  refine AKi (b := n) hf _ H9 (n7 + 1) _ _ _ x.p x.lt (fun j hj => by simp at hj; subst hj; exact ⟨hb, by omega, g0⟩) h2 fun H10 n10 c2 y hx2 => ?_
  have x := x.tr y
  have hn10 := y.le
  have g1 := y.get g1 (by omega) (by omega)
  have g4 := y.get g4 (by omega) (by omega)
  have g9 := y.get g9 (by omega) (by omega)
  rw [Je (m := 2) (o := 3) g9 (by omega) (by show 3 + 2 <= 5; omega), BH, Ad (off := 1) g9 (v := sB t.t.text) rfl, BH, Au (m := 11) g4 (by omega) hx.len]
  refine Dx (Ua ..) (Dx (oK _) (Dx hx.vs ?_))
  refine NJ (G := G) (vs := [.agg c, .agg c2]) rfl (by omega) (fun v hv => by simp at hv; rcases hv with rfl | rfl; exact ⟨rfl, hx.len⟩; exact ⟨rfl, hx2.len⟩) fun H11 f11 _ hel => ?_
  have x := x.al f11
  have g1 := f11.get g1 (by omega)
  have g4 := f11.get g4 (by omega)
  refine (show ∀ {P : V -> Prop}, P _ -> AU (BZ vN [(0, 1, .c (.int .i64 (.ofNat 16) 0)), (1, 2, .c (.agg [.int .i64 (.ofNat line) 0, .int .i64 (.ofNat col) 0])), (4, 1, .c (sB t.t.text)), (7, 1, .c (.sl n10 0 2 2 11))]) P from fun h => by rw [zQ]; exact h) ?_
  refine CJ g4 hx.len rfl (by omega) fun H12 g12 s12 => ?_
  have x := x.st (by omega) s12
  delta D7
  refine gK (A := Al (n + 1) (n10 + 1) n2) (e := .mk 16 0 t.t.text [] false [e1, e2]) x ((s12 (n + 1) (by omega)).trans g1) rfl g12 (by omega) ?_ (fun id h => ⟨by have := h.1; omega, h.2.1, by have := h.1; omega⟩) hk
  refine .mk 16 0 t.t.text [] false line col (hel.same fun id hid => s12 id (by cases Gm hid; omega)) (ZC ..) (fun id hid => ⟨by cases Gm hid; omega, by cases Gm hid; omega, by cases Gm hid; omega⟩) ?_
  refine .cons (hx.mono (fun id h => ⟨h.1, by have := h.2.1; omega, h.2.2⟩) fun id h => ?_) (.cons (hx2.mono (fun id h => ⟨by have := h.1; omega, by have := h.2; omega, by have := h.1; omega⟩) fun id h => ?_) .nil)
  ·have h1 := h.1; have h2 := h.2.1
   exact (s12 id h.2.2).trans ((f11.same id (by omega)).trans (y.f.same id (by omega) (by omega)))
  ·have h1 := h.1; have h2 := h.2
   exact (s12 id (by omega)).trans (f11.same id h2)
theorem AId {un : PM Ex} {f b : Nat} (hf : FnC G pb [] un (.fn Bl [.ptr pb 0] [])) : FnC G pb [b] (either 17 kP (compared un f) f) (.fn MI [] [.ptr b 0]) := by
 intro s H n s' e k h hb hbs hm hk
 rw [dW]
 show Runs F G MI [.ptr b 0] H n k
 refine BO (s := Dz (Fq lfp G)) LP (by obtain ⟨h, o⟩ := P8 BP G; rw [LP] at h; cases h; exact o) ?_
 show Fq lfp G (Runs F G) (.ptr b 0) H n k
 delta Fq
 obtain ⟨b1, b2, b3⟩ := one1 hbs
 have x := Fr.refl h hb
 refine BA rfl fun H1 f1 g1 => ?_
 have x := x.al f1
 have b3 := f1.get b3 b2
 have q : Aa (.ptr b 0) G H1 = some (.ptr pb 0) := Ad b3 rfl
 rw [q, BH, BH, AOu]
 refine AA3 (ACP hf) Bxs.nil x.p x.lt hm fun H3 n3 c y hx => ?_
 have hn := y.le
 exact ACk (x.tr y) (y.get g1 (by omega) hb) rfl (Nat.le_refl _) hx (fun id h => ⟨by have := h.1; omega, h.2, by have := h.1; omega⟩) hk
theorem AIk {rec : PM Ex} {f : Nat} {s s' : S} {H : Heap} {n : Nat} {e : Ex} {k : KV} (hf : FnC G pb [] (unary rec f) (.fn Bl [.ptr pb 0] [])) (h : Vw G H pb s) (hb : pb < n) (hm : ABj rec f s = some (e, s')) (hk : ExK G pb H n s' e k) :
    Runs F G Ba [.ptr pb 0] H n k := by
  refine BO (s := Dz (II lfp G)) Nr (by obtain ⟨h, o⟩ := TN BP G; rw [Nr] at h; cases h; exact o) ?_
  show II lfp G (Runs F G) (.ptr pb 0) H n k
  delta II
  unfold ABj at hm
  rw [Option.bind_eq_some_iff] at hm
  obtain ⟨s1, h1, hm⟩ := hm
  rw [Option.bind_eq_some_iff] at hm
  obtain ⟨⟨e1, s2⟩, h2, hm⟩ := hm
  rw [Option.bind_eq_some_iff] at hm
  obtain ⟨s3, h3, hm⟩ := hm
  cases hm
  have x := Fr.refl h hb
  refine AES rfl fun H0 f0 g0 => ?_
  have x := x.al f0
  have g0 : T.get H0 n = some (one [.ptr pb 0]) := g0
  refine BA rfl fun H1 f1 g1 => ?_
  have x := x.al f1
  have g0 := f1.get g0 (by omega)
  have q : Aa (.ptr n 0) G H1 = some (.ptr pb 0) := Ad g0 rfl
  rw [q, BH]
  refine yU x.p x.lt h1 fun H2 n2 q y hq1 hq2 hq3 => ?_
  have x := x.tr y
  have g0 := y.get g0 (by omega) hb
  have g1 := y.get g1 (by omega) (by omega)
  rw [qw]
  have q' : Aa (.ptr n 0) G H2 = some (.ptr pb 0) := Ad g0 rfl
  rw [q', BH, ARg]
  refine AA3 (AId (b := n) hf) (fun j hj => by simp at hj; subst hj; exact ⟨hb, by omega, g0⟩) x.p x.lt h2 fun H3 n3 c y hx => ?_
  have x := x.tr y
  have g1 := y.get g1 (by omega) (by omega)
  have hq3 := y.get hq3 hq2 (by omega)
  have hn3 := y.le
  refine CJ g1 rfl hx.len (by omega) fun H4 g4 s4 => ?_
  have x := x.st (by omega) s4
  have hx : EI G H4 (Rg n2 n3) c e1 := hx.mono (fun id h => h) fun id h => s4 id (by have := h.1; omega)
  refine AJV x.p x.lt ((s4 q (by omega)).trans hq3) h3 fun H5 n5 y => ?_
  have x := x.tr y
  have g4 := y.get g4 (by omega) (by omega)
  have hn5 := y.le
  rw [BI (m := 11) g4 (by omega) hx.len]
  simp only [go_sem]
  exact hk _ _ _ x (hx.mono (fun id h => ⟨by have := h.1; omega, by have := h.2; omega⟩) fun id h => y.f.same id h.2 (by have := h.1; omega))
end
end Go.PQ
namespace Go.PQ
open Go.Eng
set_option maxRecDepth 100000
theorem ABf {G : AP} {H : Heap} {n id m z bs : Nat} {t : T LV} {w : V} {LS NS : Dk} {k : KV} (hz : 0 < z) (hb : T.get H id = some (.arr z m t)) (hid : id < n) (h : elems (.sl id 0 m m z) G H z = some LS)
    (hw : elems w G H z = some NS) (hr : (m + NS.length) * bs <= 140737488355328)
    (hk : ∀ v' H' n', El G H' v' z (LS ++ NS) -> (∀ j, j < n -> T.get H' j = T.get H j) -> n <= n' -> ((∃ l, v' = .sl id 0 l m z) ∨ ∃ l, v' = .NW n 0 l z /\ n < n') -> k v' H' n') : Yq z bs (.sl id 0 m m z) w G H n k := by
  unfold Yq
  rw [hw, WW]
  have h2 : (Bool.rec (motive := fun _ => Option Dk) none (CV H id z m 0) (Nat.beq z z) : Option Dk) = some LS := h
  rw [Dy] at h2
  have h2 : CV H id z m 0 = some LS := h2
  obtain ⟨hl, hat⟩ := Nc _ _ h2
  have e0 : ABr (.sl id 0 m m z) G z bs NS H n k = Bool.rec (motive := fun _ => Prop) (Es (CV H id z m 0) fun OS => La z bs OS NS H n k) (Es (T.get H id) fun b => pU id 0 m m z (m + NS.length) NS H n k b) (Nat.ble (m + NS.length) m) := by
    show Fa (Nat.beq z z) (Cj (Nat.add m (len NS)) fun need => Bool.rec (motive := fun _ => Prop) (Es (CV H id z m 0) fun OS => La z bs OS NS H n k) (Es (T.get H id) fun b => pU id 0 m m z need NS H n k b) (Nat.ble need m)) = _
    rw [Dy, aK, BL, len_eq]; rfl
  rw [e0]
  by_cases hN : NS.length = 0
  · have : NS = [] := List.length_eq_zero_iff.1 hN
    subst this
    rw [show Nat.ble (m + ([] : Dk).length) m = true by rw [Nat.ble_eq]; exact Nat.le_refl _]
    show Es (T.get H id) (fun b => pU id 0 m m z (m + 0) [] H n k b)
    rw [hb, WW]
    show Fa (band (Nat.beq z z) (Nat.ble (Nat.add 0 (m + 0)) m)) (k (.sl id 0 (m + 0) m z) (T.set H id (.arr z m t)) n)
    rw [Dy, show Nat.ble (Nat.add 0 (m + 0)) m = true by rw [Nat.ble_eq]; show 0 + m <= m; omega]
    have hs : ∀ j, T.get (T.set H id (.arr z m t)) j = T.get H j := fun j => by
      rw [T.LJ]; split
      · rename_i e; subst e; exact hb.symm
      · rfl
    rw [List.append_nil] at hk
    exact hk _ _ _ ((show El G H (.sl id 0 m m z) z LS from ⟨rfl, h⟩).same fun j _ => hs j) (fun j _ => hs j) (Nat.le_refl _) (.inl ⟨_, rfl⟩)
  · rw [show Nat.ble (m + NS.length) m = false by rw [Bool.eq_false_iff]; intro hc; rw [Nat.ble_eq] at hc; omega]
    show Es (CV H id z m 0) (fun OS => La z bs OS NS H n k)
    rw [h2, WW]
    show Cj (Nat.add (len LS) (len NS)) (fun need => Fa (ML need bs) (Cj n fun n => k (.NW n 0 need z) (T.set H n (.arr z need (ED NS (len LS) (ED LS 0 .e)))) (Nat.succ n)))
    rw [BL, BL, len_eq, len_eq, show ML (Nat.add LS.length NS.length) bs = true from VI (by rw [hl]; exact hr), aK]
    have e : Nat.add LS.length NS.length = (LS ++ NS).length := by rw [List.length_append]; rfl
    rw [e]
    refine hk _ _ _ (Gr.el (m := n) (.NW (LS := LS ++ NS) (T.Ap ..) (Nat.le_refl _) (fun i L hi => ?_) (Nat.le_refl _)) hz) (fun j hj => T.Am _ _ (by omega)) (by omega) (.inr ⟨_, rfl, by omega⟩)
    rw [Dv, Dv]
    by_cases hlt : i < LS.length
    · rw [if_neg (by omega), if_pos ⟨Nat.zero_le _, by omega⟩]
      rw [List.getElem?_append_left hlt] at hi
      exact hi
    · rw [List.getElem?_append_right (by omega)] at hi
      have hlt2 := (List.getElem?_eq_some_iff.1 hi).1
      rw [if_pos ⟨by omega, by omega⟩]; exact hi
theorem yh {G : AP} {H : Heap} {m n z bs : Nat} {v w : V} {LS NS : Dk} {k : KV} (h : Gr G H m z v LS) (hm : m <= n) (hn : ∀ id, v.Ul = some id -> id < n) (hw : elems w G H z = some NS)
    (hb : (LS.length + NS.length) * bs <= 140737488355328)
    (hk : ∀ v' H', Gr G H' m z v' (LS ++ NS) -> (∀ id, id < n -> v.Ul ≠ some id -> T.get H' id = T.get H id) -> (∀ id, v'.Ul = some id -> id = n) -> k v' H' (n + 1))
    (hk0 : NS = [] -> k v H n) : Yq z bs v w G H n k := by
  unfold Yq
  rw [hw, WW]
  cases h with
  | nil =>
    cases NS with
    | nil => exact hk0 rfl
    | cons a NS =>
      show La z bs [] (a :: NS) H n k
      unfold La
      rw [BL, BL, len_eq, len_eq, show ML (Nat.add ([] : Dk).length (a :: NS).length) bs = true from VI hb, aK]
      have e : Nat.add ([] : Dk).length (a :: NS).length = (a :: NS).length := Nat.zero_add _
      rw [e]
      refine hk _ _ ?_ (fun id hid _ => T.Am _ _ (by omega)) (fun id hid => by cases hid; rfl)
      refine .NW (LS := a :: NS) (T.Ap ..) (Nat.le_refl _) (fun i L hi => ?_) hm
      show T.get (ED (a :: NS) 0 .e) i = some L
      have hlt := (List.getElem?_eq_some_iff.1 hi).1
      rw [Dv, if_pos ⟨Nat.zero_le _, by omega⟩]; exact hi
  | NW hg hc ht hid =>
    rename_i id c t
    show Fa (Nat.beq z z) _
    rw [Dy, aK]
    cases NS with
    | nil => exact hk0 rfl
    | cons a NS =>
      show Es (T.get H id) (fun b => WA id 0 LS.length z bs (a :: NS) H n k b)
      rw [hg, WW]
      rw [ABi (VI hb) hc, show LS.length + (a :: NS).length = (LS ++ a :: NS).length by rw [List.length_append]]
      refine hk _ _ ?_ (fun j hj hne => ?_) (fun j hj => by cases hj; rfl)
      · refine .NW (LS := LS ++ a :: NS) (T.Ap ..) (Nat.le_refl _) (fun i L hi => ?_) hm
        rw [Dv]
        by_cases hlt : i < LS.length
        · rw [if_neg (by omega)]
          rw [List.getElem?_append_left hlt] at hi
          exact ht i L hi
        · rw [List.getElem?_append_right (by omega)] at hi
          have hlt2 := (List.getElem?_eq_some_iff.1 hi).1
          rw [if_pos ⟨by omega, by omega⟩]; exact hi
      · rw [T.Am _ _ (by omega), T.Am _ _ (by intro e; subst e; exact hne rfl)]
def gG (G : AP) (H : Heap) (A : Nat -> Prop) (v : V) (es : List Ex) : Prop := ∃ cs, El G H v 11 cs /\ Jz v v = true /\ XF v = true /\ BK v = [v] /\ (∀ id, v.Ul = some id -> A id) /\ V3 G H A cs es
def EsK (G : AP) (pb : Nat) (H : Heap) (n : Nat) (s' : S) (es : List Ex) (k : KV) : Prop := ∀ H' n' v, Fr G pb H n H' n' s' -> gG G H' (Rg n n') v es -> es.length <= 201 -> k v H' n'
def ACf (G : AP) (pb : Nat) (rec : PM Ex) : Prop := ∀ (s : S) (H : Heap) (n : Nat) (s' : S) (e : Ex) (k : KV), Vw G H pb s -> pb < n -> rec s = some (e, s') -> ExK G pb H n s' e k -> Runs F G Ba [.ptr pb 0] H n k
theorem Pm {G : AP} {H : Heap} {m z : Nat} {v : V} {LS : Dk} (h : Gr G H m z v LS) : Jz v v = true /\ XF v = true /\ BK v = [v] := by
 cases h with
 | nil => exact ⟨rfl, rfl, rfl⟩
 | NW => exact ⟨zS .., rfl, rfl⟩
section
variable {G : AP} {pb : Nat} {H : Heap} {n : Nat} {s s' : S}
theorem kU {w : Bs} {B E : Heap -> Nat -> Prop} (h : Vw G H pb s) (hb : pb < n) (h0 : s.ok = false -> E H n)
    (h1 : s.ok = true -> ∃ b s', Cc w s = some (b, s') /\ ∀ H' n', Fr G pb H n H' n' s' -> bif b then E H' n' else B H' n') :
    Runs F G C9 [.ptr pb 0] H n fun v5 H n => Bq v5 true (some (.ptr pb 0)) fun v6 => Og v5 true (Runs F G AZ [v6, sB w] H n) H n fun v7 H n => Bq v5 true (XI v7) fun v8 => AU (Dc v5 v8 (.bool false)) fun v9 => Ac v9 true (B H n) (E H n) := by
  refine AFA h ?_
  cases ho : s.ok with
  | false => simp only [go_sem]; exact h0 ho
  | true =>
    obtain ⟨b, s', h2, h3⟩ := h1 ho
    simp only [go_sem]
    refine KO h hb h2 fun H' n' y => ?_
    have := h3 H' n' y
    cases b <;> simp only [go_sem, Rn, Bool.not_true, Bool.not_false] <;> exact this
theorem EI.ok {A : Nat -> Prop} {c : LV} {e : Ex} (h : EI G H A c e) : XF (.agg c) = true /\ (BK (.agg c)).length = 11 := ⟨rfl, h.len⟩
theorem AF0 {rec : PM Ex} {f : Nat} {es : List Ex} {k : KV} (hr : ACf G pb rec) (h : Vw G H pb s) (hb : pb < n) (hm : xQ rec f s = some (es, s')) (hk : EsK G pb H n s' es k) : Runs F G Oc [.ptr pb 0] H n k := by
 refine BO (s := Dz (Hf lfp G)) Nq (by obtain ⟨h, o⟩ := TD BP G; rw [Nq] at h; cases h; exact o) ?_
 show Hf lfp G (Runs F G) (.ptr pb 0) H n k
 delta Hf
 unfold xQ at hm
 rw [Option.bind_eq_some_iff] at hm
 obtain ⟨s1, h1, hm⟩ := hm
 refine Iz (ws := [IL]) h hb rfl (by show 1 <= 1000; omega) h1 fun H1 n1 x => ?_
 refine KY (J := fun g q => ∃ H' n' t v cs out, q = (.ptr pb 0, v, H', n') /\ Fr G pb H n H' n' t /\ Own G H' n n' 11 v cs /\ V3 G H' (fun id => n <= id /\ id < n' /\ v.Ul ≠ some id) cs out /\ (t.ok = true -> out.length <= 200) /\ out.length <= 201 /\ ABl rec g out t = some (es, s')) ?_ (m := f)
  ⟨H1, n1, s1, .Ag, [], [], rfl, x, dN, .nil, fun _ => Nat.zero_le _, Nat.zero_le _, hm⟩
 rintro I g q ⟨H2, n2, t, v, cs, out, rfl, x, ho, hc, hle, hle2, hm⟩ ih
 show LZ lfp G (Runs F G) k I (.ptr pb 0) v H2 n2
 delta LZ
 cases g with
 | zero => cases hm
 | succ g =>
  have hm : (bif t.ok then (Cc Ik t).bind fun p => bif p.1 then some (out, p.2) else
   (bif decide (0 < out.length) then Ce [OM] p.2 else some p.2).bind fun s1 => (rec s1).bind fun q => ABl rec g (out ++ [q.1]) (Ht (out.length + 1) q.2)
   else some (out, t)) = some (es, s') := hm
  have hn2 := x.le
  have fin : ∀ {H3 : Heap} {n3 : Nat} {t3 : S}, Fr G pb H2 n2 H3 n3 t3 -> some (out, t3) = some (es, s') -> IX lfp G (Runs F G) k v H3 n3 := by
   intro H3 n3 t3 y he
   cases he
   delta IX
   have ho3 := ho.kx y.f x.b
   refine hk _ _ _ (x.tr y) ⟨cs, ho3.el (by omega), (Pm ho3.gr).1, (Pm ho3.gr).2.1, (Pm ho3.gr).2.2, fun id hid => ⟨ho3.ge hid, ho3.lo id hid⟩, ?_⟩ hle2
   exact hc.mono (fun id h => ⟨h.1, by have := h.2.1; have := y.le; omega⟩) fun id h => y.f.same id h.2.1 (by have := h.1; have := x.b; omega)
  rw [AQK]
  refine kU x.p x.lt (fun hf => fin (Fr.refl x.p x.lt) (by rw [hf] at hm; exact hm)) fun ht => ?_
  rw [ht, cond_true, Option.bind_eq_some_iff] at hm
  obtain ⟨⟨b, t2⟩, h2, hm⟩ := hm
  refine ⟨b, t2, h2, fun H3 n3 y => ?_⟩
  cases b with
  | true => exact fin y hm
  | false =>
   show AU (lenV v) _
   have hm : ((bif decide (0 < out.length) then Ce [OM] t2 else some t2).bind fun s1 => (rec s1).bind fun q => ABl rec g (out ++ [q.1]) (Ht (out.length + 1) q.2)) = some (es, s') := hm
   rw [Option.bind_eq_some_iff] at hm
   obtain ⟨t3, h3, hm⟩ := hm
   rw [Option.bind_eq_some_iff] at hm
   obtain ⟨⟨e, t4⟩, h4, hm⟩ := hm
   have hlen := hle ht
   have body : ∀ {H4 : Heap} {n4 : Nat}, Fr G pb H2 n2 H4 n4 t3 -> En lfp G (Runs F G) k I (.ptr pb 0) v H4 n4 := by
    intro H4 n4 y
    delta En
    have ho4 := ho.kx y.f x.b
    have hc4 : V3 G H4 (fun id => n <= id /\ id < n4 /\ v.Ul ≠ some id) cs out := hc.mono (fun id h => ⟨h.1, by have := h.2.1; have := y.le; omega, h.2.2⟩) fun id h => y.f.same id h.2.1 (by have := h.1; have := x.b; omega)
    have x := x.tr y
    refine hr _ _ _ _ _ _ x.p x.lt h4 fun H5 n5 c y hx => ?_
    have hn4 := x.le
    have hpb := x.b
    have x := x.tr y
    have ho5 := ho4.kx y.f hpb
    have hc5 : V3 G H5 (fun id => n <= id /\ id < n4 /\ v.Ul ≠ some id) cs out := hc4.mono (fun id h => h) fun id h => y.f.same id h.2.1 (by have := h.1; omega)
    have hn5 := y.le
    refine NJ (G := G) (vs := [.agg c]) rfl (by omega) (fun v hv => by simp at hv; subst hv; exact hx.ok) fun H6 f6 _ hel => ?_
    have x := x.al f6
    have ho6 := ho5.kp f6
    refine yh ho6.gr (by omega) ho6.lo hel.2 (by have := hc.len; show (cs.length + 1) * 136 <= _; omega) ?_ (fun h => by cases h)
    intro v' H7 hgr hsame hlo
    have hgr : Gr G H7 n 11 v' (cs ++ [c]) := hgr
    have f7 : Fr G pb H n H7 (n5 + 1 + 1) t4 := ⟨⟨by omega, fun id hid hp => (hsame id (by omega) (fun h => by have := ho6.ge h; omega)).trans (x.f.same id hid hp)⟩, x.p.same fun id hid => hsame id (by omega) (fun h => by have := ho6.ge h; omega), hpb⟩
    have hv4 : ∀ id, v.Ul = some id -> id < n4 := ho4.lo
    rw [(hgr.el (by omega)).len, BH, List.length_append, show cs.length + [c].length = out.length + 1 by rw [hc.len]; rfl]
    refine AAR f7.p f7.lt fun H8 n8 y8 => ?_
    have hn8 := y8.le
    refine ih g (_, _, H8, n8) (by omega) ⟨H8, n8, _, v', cs ++ [c], out ++ [e], rfl, f7.tr y8, ?_, ?_, ?_, by rw [List.length_append]; show out.length + 1 <= 201; omega, hm⟩
    ·exact (show Own G H7 n (n5 + 1 + 1) 11 v' (cs ++ [c]) from ⟨hgr, fun id hid => by have := hlo id hid; omega⟩).kx y8.f hpb
    ·refine (hc5.mono (fun id h => ⟨h.1, by have := h.2.1; omega, fun hv => by have := hlo id hv; have := h.2.1; omega⟩) fun id h => ?_).app (.cons (hx.mono (fun id h => ⟨by have := h.1; omega, by have := h.2; omega, fun hv => by have := hlo id hv; have := h.2; omega⟩) fun id h => ?_) .nil)
     ·have h1 := h.1; have h2 := h.2.1
      exact (y8.f.same id (by omega) (by omega)).trans ((hsame id (by omega) h.2.2).trans (f6.same id (by omega)))
     ·have h1 := h.1; have h2 := h.2
      exact (y8.f.same id (by omega) (by omega)).trans ((hsame id (by omega) (fun hv => by have := hv4 id hv; omega)).trans (f6.same id (by omega)))
    ·intro hok
     rw [List.length_append]
     unfold Ht at hok
     cases hd : decide (200 < out.length + 1) with
     | false => have := of_decide_eq_false hd; show out.length + 1 <= 200; omega
     | true =>
      rw [hd] at hok
      exfalso
      unfold Fj at hok
      cases ho : t4.ok with
      | false => rw [ho] at hok; simp [ho] at hok
      | true => rw [ho] at hok; cases hok
   have hv3 := (ho.kx y.f x.b).el (by omega)
   rw [hv3.len, BH, hc.len, jm, BH]
   cases hd : decide (0 < out.length) with
   | false =>
    rw [hd] at h3
    cases h3
    rw [CG]
    exact body y
   | true =>
    rw [hd] at h3
    have h3 : Ce [OM] t2 = some t3 := h3
    rw [CS]
    exact Iz (ws := [OM]) y.p (by have := y.le; have := x.lt; omega) rfl (by show 1 <= 1000; omega) h3 fun H4 n4 y4 => body (y.tr y4)
end
end Go.PQ
namespace Go.PQ
open Go.Eng
set_option maxRecDepth 100000
theorem ANP {kd : Nat} {x y : V} {nm : Bs} {id o l : Nat} : BZ vN [(0, 1, .c (.int .i64 (.ofNat kd) 0)), (1, 2, .c (.agg [x, y])), (4, 1, .c (sB nm)), (7, 1, .c (.NW id o l 11))] =
    some (.agg [.int .i64 (.ofNat kd) 0, x, y, .int .i64 (.ofNat 0) 0, sB nm, .str 0 0, .bool false, .NW id o l 11, .str 0 0, .bool false, .str 0 0]) := rfl
theorem AKv {x y : V} : BZ vN [(1, 2, .c (.agg [x, y]))] =
    some (.agg [.int .i64 (.ofNat 0) 0, x, y, .int .i64 (.ofNat 0) 0, .str 0 0, .str 0 0, .bool false, .Ag, .str 0 0, .bool false, .str 0 0]) := rfl
theorem AL {e : Option V} {v : V} {P : V -> Prop} (h : e = some v) (hp : P v) : AU e P := by rw [h]; exact hp
section
variable {G : AP} {pb : Nat} {H : Heap} {n : Nat} {s s' : S} {k : KV}
theorem AIP {t : Ty} (hk : ∀ H', Kp H n H' (n + 1) -> k (.bool (uO t)) H' (n + 1)) : Runs F G Xa [.agg (jw t)] H n k := by
 refine BO (s := Dz (KD lfp G)) QA (by obtain ⟨h, o⟩ := WC BP G; rw [QA] at h; cases h; exact o) ?_
 show KD lfp G (Runs F G) (.agg (jw t)) H n k
 delta KD
 refine aA fun H1 f1 g1 => ?_
 have q0 : Aa (.ptr n 0) G H1 = some (sB t.nm) := Ad g1 rfl
 have q1 : Aa (.ptr n 1) G H1 = some (.bool t.arr) := Ad g1 rfl
 have ne0 : ∀ l : Bs, Ig (.one .str) true (sB l) (.str 0 0) = some (.bool (!decide (l = []))) := fun l => AS2 l []
 have hk := hk _ f1
 unfold uO at hk
 simp only [go_sem, Nat.reduceAdd, q1, Rn]
 cases ha : t.arr with
 | true =>
  rw [ha] at hk
  simp only [Bool.not_true]
  repeat (first | with_reducible refine AEi ?_ | with_reducible refine ABq ?_ | with_reducible refine AEY ?_)
  exact hk
 | false =>
  rw [ha] at hk
  simp only [Bool.not_false, go_sem, Nat.reduceAdd, q0, ne0]
  cases hn : t.nm with
  | nil =>
   rw [hn] at hk
   simp only [decide_true, Bool.not_true]
   repeat (first | with_reducible refine AEi ?_ | with_reducible refine ABq ?_ | with_reducible refine AEY ?_)
   exact hk
  | cons c l =>
   rw [hn] at hk q0
   have hk : k (.bool (great c)) H1 (n + 1) := hk
   unfold great at hk
   have ix : F8 (sB (c :: l)) (.int .i64 (.ofNat 0) 0) = some (.int .u8 (.ofNat c.toNat) 0) := xg (l := c :: l) (i := 0) (by simp)
   simp only [show decide (c :: l = []) = false from rfl, Bool.not_false, go_sem, Nat.reduceAdd, q0, ix, ZJ]
   cases h1 : decide (65 <= c.toNat) with
   | false => rw [h1] at hk; simp only [go_sem]; exact hk
   | true => rw [h1] at hk; simp only [go_sem, Nat.reduceAdd, q0, ix, o9]; exact hk
def AQT (G : AP) (pb : Nat) (H : Heap) (n : Nat) (A : Nat -> Prop) (s' : S) (e : Ex) (k : KV) : Prop := ∀ H' n' c, Fr G pb H n H' n' s' -> EI G H' (fun id => A id ∨ Rg n n' id) c e -> k (.agg c) H' n'
theorem qj {H0 H : Heap} {n0 n r : Nat} {c L0 : LV} {e : Ex} {A : Nat -> Prop} (x : Fr G pb H0 n0 H n s') (gr : T.get H r = some (one L0)) (hl : L0.length = 11) (hr : n0 <= r) (he : EI G H (fun id => A id ∨ (Rg n0 n id /\ id ≠ r)) c e) (hA : ∀ id, A id -> id < n0)
    (hk : AQT G pb H0 n0 A s' e k) : Bd 11 (.ptr r 0) (.agg c) H n fun _ H n => Es (BN [.cn (.ptr r 0) 11] G H) fun l => k (Eh l) H n := by
  refine CJ gr hl he.len (by omega) fun H1 g1 s1 => ?_
  rw [BI (m := 11) g1 (by omega) he.len]
  simp only [go_sem]
  exact hk _ _ _ (x.st hr s1) (he.mono (fun id h => h.imp (fun h => h) fun h => h.1) fun id h => s1 id (by rcases h with h | h; have := hA id h; omega; exact h.2))
theorem AGI {rec : PM Ex} {f : Nat} {e e' : Ex} {c : LV} {A : Nat -> Prop} {line col : Nat} (hr : ACf G pb rec) (hA : ∀ id, A id -> pb < id /\ id < n) (hx : EI G H A c e) (h : Vw G H pb s) (hb : pb < n) (hm : jB rec f e s = some (e', s')) (hk : AQT G pb H n A s' e' k) :
    Runs F G Qy [.ptr pb 0, .agg c, .agg [.int .i64 (.ofNat line) 0, .int .i64 (.ofNat col) 0]] H n k := by
  refine BO (s := ar3 (Fb lfp G)) LY (by obtain ⟨h, o⟩ := QL BP G; rw [LY] at h; cases h; exact o) ?_
  show Fb lfp G (Runs F G) (.ptr pb 0) (.agg c) (.agg [.int .i64 (.ofNat line) 0, .int .i64 (.ofNat col) 0]) H n k
  delta Fb
  unfold jB at hm
  rw [Option.bind_eq_some_iff] at hm
  obtain ⟨⟨b, t⟩, h1, hm⟩ := hm
  have hm : (bif b then some ((.mk 13 0 [] [] false [e] : Ex), t) else (Hr 3 t).bind fun q => bif Oj [IL] q.2 then (xQ rec f q.2).bind fun a => some (.mk 8 0 q.1 [] false (e :: a.1), a.2) else some (.mk 7 0 q.1 [] false [e], q.2)) = some (e', s') := hm
  have x := Fr.refl h hb
  refine aA fun H1 f1 g1 => ?_
  have x := x.al f1
  refine aA fun H2 f2 g2 => ?_
  have x := x.al f2
  have g1 := f2.get g1 (by omega)
  refine BA rfl fun H3 f3 g3 => ?_
  have x := x.al f3
  have g1 := f3.get g1 (by omega)
  have g2 := f3.get g2 (by omega)
  have hx : EI G H3 A c e := hx.mono (fun id h => h) fun id h => x.f.same id (hA id h).2 (by have := (hA id h).1; omega)
  rw [show V.str 6 114849160783212 = sB kQ from rfl]
  refine KO x.p x.lt h1 fun H4 n4 y => ?_
  have x := x.tr y
  have hn4 := y.le
  have g1 := y.get g1 (by omega) hb
  have g2 := y.get g2 (by omega) (by omega)
  have g3 := y.get g3 (by omega) (by omega)
  have hx : EI G H4 A c e := hx.mono (fun id h => h) fun id h => y.f.same id (by have := (hA id h).2; omega) (by have := (hA id h).1; omega)
  have mkOne : ∀ {H6 : Heap} {m : Nat} {kd : Nat} {nm : Bs}, EI G H6 A c e -> n <= m -> m ≠ n + 1 + 1 -> El G H6 (.sl m 0 1 1 11) 11 [c] -> EI G H6 (fun id => A id ∨ (Rg n (m + 1) id /\ id ≠ n + 1 + 1)) (exC kd 0 nm [] false line col (.sl m 0 1 1 11)) (.mk kd 0 nm [] false [e]) := by
    intro H6 m kd nm hx h1 h2 hel
    exact .mk kd 0 nm [] false line col hel (ZC ..) (fun id hid => .inr (by cases Gm hid; exact ⟨⟨h1, by omega⟩, h2⟩)) (.cons (hx.mono (fun id h => .inl h) fun id h => rfl) .nil)
  cases b with
  | true =>
    cases hm
    rw [CS, Au (m := 2) g2 (by omega) rfl, BH, Au (m := 11) g1 (by omega) hx.len, BH]
    refine NJ (G := G) (vs := [.agg c]) rfl (by omega) (fun v hv => by simp at hv; subst hv; exact hx.ok) fun H6 f6 _ hel => ?_
    have x := x.al f6
    have hx : EI G H6 A c e := hx.mono (fun id h => h) fun id h => f6.same id (by have := (hA id h).2; omega)
    refine AL AC5 ?_
    exact qj x (f6.get g3 (by omega)) rfl (by omega) (mkOne (kd := 13) (nm := []) hx (by omega) (by omega) hel) (fun id h => (hA id h).2) hk
  | false =>
    rw [cond_false, Option.bind_eq_some_iff] at hm
    obtain ⟨⟨nm, t2⟩, h2, hm⟩ := hm
    have hm : (bif Oj [IL] t2 then (xQ rec f t2).bind fun a => some ((.mk 8 0 nm [] false (e :: a.1) : Ex), a.2) else some (.mk 7 0 nm [] false [e], t2)) = some (e', s') := hm
    rw [CG]
    refine XK x.p x.lt h2 fun H5 n5 y => ?_
    have x := x.tr y
    have hn5 := y.le
    have g1 := y.get g1 (by omega) hb
    have g2 := y.get g2 (by omega) (by omega)
    have g3 := y.get g3 (by omega) (by omega)
    have hx : EI G H5 A c e := hx.mono (fun id h => h) fun id h => y.f.same id (by have := (hA id h).2; omega) (by have := (hA id h).1; omega)
    refine eu (ws := [IL]) x.p x.lt rfl (by show 1 <= 1000; omega) fun H6 n6 y => ?_
    have x := x.tr y
    have hn6 := y.le
    have g1 := y.get g1 (by omega) hb
    have g2 := y.get g2 (by omega) (by omega)
    have g3 := y.get g3 (by omega) (by omega)
    have hx : EI G H6 A c e := hx.mono (fun id h => h) fun id h => y.f.same id (by have := (hA id h).2; omega) (by have := (hA id h).1; omega)
    rw [Rn, BH]
    cases hi : Oj [IL] t2 with
    | false =>
      rw [hi] at hm
      cases hm
      rw [Bool.not_false, CS, Au (m := 2) g2 (by omega) rfl, BH, Au (m := 11) g1 (by omega) hx.len, BH]
      refine NJ (G := G) (vs := [.agg c]) rfl (by omega) (fun v hv => by simp at hv; subst hv; exact hx.ok) fun H7 f7 _ hel => ?_
      have x := x.al f7
      have hx : EI G H7 A c e := hx.mono (fun id h => h) fun id h => f7.same id (by have := (hA id h).2; omega)
      refine AL zQ ?_
      exact qj x (f7.get g3 (by omega)) rfl (by omega) (mkOne (kd := 7) (nm := nm) hx (by omega) (by omega) hel) (fun id h => (hA id h).2) hk
    | true =>
      rw [hi, cond_true, Option.bind_eq_some_iff] at hm
      obtain ⟨⟨es, t3⟩, h3, hm⟩ := hm
      cases hm
      rw [Bool.not_true, CG, Au (m := 2) g2 (by omega) rfl, BH, Au (m := 11) g1 (by omega) hx.len, BH]
      refine NJ (G := G) (vs := [.agg c]) rfl (by omega) (fun v hv => by simp at hv; subst hv; exact hx.ok) fun H7 f7 hb7 hel => ?_
      have x := x.al f7
      have hx : EI G H7 A c e := hx.mono (fun id h => h) fun id h => f7.same id (by have := (hA id h).2; omega)
      have g1 := f7.get g1 (by omega)
      have g2 := f7.get g2 (by omega)
      have g3 := f7.get g3 (by omega)
      refine AF0 hr x.p x.lt h3 fun H8 n8 v y hes hle => ?_
      have x := x.tr y
      have hn8 := y.le
      have g1 := y.get g1 (by omega) hb
      have g2 := y.get g2 (by omega) (by omega)
      have g3 := y.get g3 (by omega) (by omega)
      have hx : EI G H8 A c e := hx.mono (fun id h => h) fun id h => y.f.same id (by have := (hA id h).2; omega) (by have := (hA id h).1; omega)
      rw [Au (m := 2) g2 (by omega) rfl, BH, Au (m := 11) g1 (by omega) hx.len, BH]
      refine Dx (Ua ..) (Dx hx.vs ?_)
      obtain ⟨cs, he1, he2, he3, he4, he5, he6⟩ := hes
      obtain ⟨t7, hb7⟩ := hb7
      have hel8 : El G H8 (.sl n6 0 1 1 11) 11 [c] := hel.same fun id hid => by cases Gm hid; exact y.f.same _ (by omega) (by omega)
      refine ABf (by omega) ((y.f.same _ (by omega) (by omega)).trans hb7) (by omega) hel8.2 he1.2 ?_ ?_
      · have := he6.len; rw [this]; omega
      intro v' H9 n9 hel9 hs9 hn9 hv'
      have x : Fr G pb H n H9 n9 t3 := ⟨⟨by omega, fun id hid hp => (hs9 id (by omega)).trans (x.f.same id hid hp)⟩, x.p.same fun id hid => hs9 id (by omega), hb⟩
      have g2 := (hs9 (n + 1) (by omega)).trans g2
      have g3 := (hs9 (n + 1 + 1) (by omega)).trans g3
      rw [Au (m := 2) g2 (by omega) rfl, BH]
      refine Dx (Ua ..) ?_
      have hcs : V3 G H9 (fun id => A id ∨ (Rg n n9 id /\ id ≠ n + 1 + 1)) ([c] ++ cs) (e :: es) := by
        refine V3.cons (hx.mono (fun id h => .inl h) fun id h => hs9 id (by have := (hA id h).2; omega)) ?_
        exact he6.mono (fun id h => .inr ⟨⟨by have := h.1; omega, by have := h.2; omega⟩, by have := h.1; omega⟩) fun id h => hs9 id h.2
      have fin : ∀ w : V, El G H9 w 11 ([c] ++ cs) -> Jz w w = true -> (∀ id, w.Ul = some id -> n6 <= id /\ id < n9) -> EI G H9 (fun id => A id ∨ (Rg n n9 id /\ id ≠ n + 1 + 1)) (exC 8 0 nm [] false line col w) (.mk 8 0 nm [] false (e :: es)) := fun w h1 h2 h3 =>
        .mk 8 0 nm [] false line col h1 h2 (fun id hid => .inr ⟨⟨by have := (h3 id hid).1; omega, (h3 id hid).2⟩, by have := (h3 id hid).1; omega⟩) hcs
      rcases hv' with ⟨l, rfl⟩ | ⟨l, rfl, hn9'⟩
      · refine AL zQ ?_
        exact qj x g3 rfl (by omega) (fin _ hel9 (ZC ..) fun id hid => by cases Gm hid; omega) (fun id h => (hA id h).2) hk
      · refine AL ANP ?_
        exact qj x g3 rfl (by omega) (fin _ hel9 (zS ..) fun id hid => by cases fK hid; omega) (fun id h => (hA id h).2) hk
end
end Go.PQ
