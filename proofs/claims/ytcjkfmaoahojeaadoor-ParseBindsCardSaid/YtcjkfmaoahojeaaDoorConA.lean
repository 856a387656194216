/- Part of a proof: texts PMA PQA PQB PQC PQD PMB PRA PRB PRC PRD PRE PRF PRG of the engine and what is proved with it; nothing is assumed. -/
import Derived.Test.YtcjkfmaoahojeaaDoorWalk
import Derived.Test.YtcjkfmaoahojeaaDoorPlainR
set_option linter.unusedVariables false
set_option linter.unusedSimpArgs false
namespace Go.PQ
open Go.Eng
abbrev Bs := List UInt8
def ABT : Bs := [97, 115]
def jF : Bs := [98, 111, 111, 108]
def Nk : Bs := [99, 108, 97, 115, 115]
def zG : Bs := [101, 108, 115, 101]
def eP : Bs := [101, 120, 116, 101, 110, 100, 115]
def lK : Bs := [102, 97, 108, 115, 101]
def SY : Bs := [102, 105, 101, 108, 100]
def nT : Bs := [105, 102]
def I4 : Bs := [105, 110, 116]
def qK : Bs := [105, 115]
def kH : Bs := [108, 101, 110, 103, 116, 104]
def ABF : Bs := [108, 101, 116]
def Ep : Bs := [109, 101, 116, 104, 111, 100]
def AEJ : Bs := [110, 101, 119]
def vC : Bs := [110, 117, 108, 108]
def Wx : Bs := [112, 114, 105, 110, 116]
def Ce : Bs := [114, 101, 116, 117, 114, 110]
def O7 : Bs := [115, 116, 97, 116, 105, 99]
def rJ : Bs := [116, 104, 105, 115]
def Vs : Bs := [116, 114, 117, 101]
def Qd : Bs := [119, 104, 105, 108, 101]
def XT : Bs := [61, 61]
def kG : Bs := [33, 61]
def jk : Bs := [60, 61]
def Wp : Bs := [38, 38]
def qN : Bs := [124, 124]
def Y1 : Bs := [43]
def CG : Bs := [45]
def WH : Bs := [42]
def QZ : Bs := [47]
def jl : Bs := [37]
def Ua : Bs := [60]
def Tn : Bs := [61]
def RP : Bs := [33]
def JZ : Bs := [40]
def KG : Bs := [41]
def kL : Bs := [91]
def ku : Bs := [93]
def Ji : Bs := [123]
def m_rc : Bs := [125]
def Bc : Bs := [59]
def OZ : Bs := [44]
def ZR : Bs := [46]
theorem ATi : V.str 2 29537 = sB ABT := rfl
theorem ACv : V.str 4 1819242338 = sB jF := rfl
theorem AKT : V.str 5 495857003619 = sB Nk := rfl
theorem AMk : V.str 4 1702063205 = sB zG := rfl
theorem AE9 : V.str 7 32480047633037413 = sB eP := rfl
theorem AJX : V.str 5 435728179558 = sB lK := rfl
theorem AKB : V.str 5 431315315046 = sB SY := rfl
theorem ATT : V.str 2 26217 = sB nT := rfl
theorem AG8 : V.str 3 7630441 = sB I4 := rfl
theorem ASs : V.str 2 29545 = sB qK := rfl
theorem AGg : V.str 6 114849160783212 = sB kH := rfl
theorem AQf : V.str 3 7628140 = sB ABF := rfl
theorem AGk : V.str 6 110429656606061 = sB Ep := rfl
theorem AQs : V.str 3 7824750 = sB AEJ := rfl
theorem AMF : V.str 4 1819047278 = sB vC := rfl
theorem AIO : V.str 5 500068610672 = sB Wx := rfl
theorem AHC : V.str 6 121437875889522 = sB Ce := rfl
theorem AGC : V.str 6 109304575259763 = sB O7 := rfl
theorem AMR : V.str 4 1936287860 = sB rJ := rfl
theorem AL4 : V.str 4 1702195828 = sB Vs := rfl
theorem AJW : V.str 5 435610544247 = sB Qd := rfl
theorem ARu : V.str 2 15677 = sB XT := rfl
theorem AVM : V.str 2 15649 = sB kG := rfl
theorem AUm : V.str 2 15676 = sB jk := rfl
theorem AO0 : V.str 2 9766 = sB Wp := rfl
theorem AR1 : V.str 2 31868 = sB qN := rfl
theorem ATd : V.str 1 43 = sB Y1 := rfl
theorem ARK : V.str 1 45 = sB CG := rfl
theorem ASt : V.str 1 42 = sB WH := rfl
theorem ARg : V.str 1 47 = sB QZ := rfl
theorem AUb : V.str 1 37 = sB jl := rfl
theorem ARq : V.str 1 60 = sB Ua := rfl
theorem AU8 : V.str 1 61 = sB Tn := rfl
theorem AUa : V.str 1 33 = sB RP := rfl
theorem AWc : V.str 1 40 = sB JZ := rfl
theorem APt : V.str 1 41 = sB KG := rfl
theorem ASZ : V.str 1 91 = sB kL := rfl
theorem AYB : V.str 1 93 = sB ku := rfl
theorem AWQ : V.str 1 123 = sB Ji := rfl
theorem AQY : V.str 1 125 = sB m_rc := rfl
theorem ATn : V.str 1 59 = sB Bc := rfl
theorem ARf : V.str 1 44 = sB OZ := rfl
theorem AUo : V.str 1 46 = sB ZR := rfl
theorem AVD : V.str 0 0 = sB [] := rfl
def Pv : List Bs := [ABT, jF, Nk, zG, eP, lK, SY, nT, I4, qK, kH, ABF, Ep, AEJ, vC, Wx, Ce, O7, rJ, Vs, Qd]
def EJ : List Bs := [XT, kG, jk, Wp, qN, Y1, CG, WH, QZ, jl, Ua, Tn, RP, JZ, KG, kL, ku, Ji, m_rc, Bc, OZ, ZR]
def great (c : UInt8) : Bool := decide (65 <= c.toNat) && decide (c.toNat <= 90)
def small (c : UInt8) : Bool := decide (97 <= c.toNat) && decide (c.toNat <= 122)
def digit (c : UInt8) : Bool := decide (48 <= c.toNat) && decide (c.toNat <= 57)
def inner (c : UInt8) : Bool := great c || (small c || (digit c || decide (c.toNat = 95)))
def blank (c : UInt8) : Bool := decide (c.toNat = 32) || (decide (c.toNat = 9) || (decide (c.toNat = 10) || decide (c.toNat = 13)))
def pre (p l : Bs) : Bool := decide (p.length <= l.length) && decide (l.take p.length = p)
def Bz : Bool -> Bs -> Bs
 | _, [] => []
 | true, c :: t => bif decide (c.toNat = 10) then Bz false t else Bz true t
 | false, c :: t => bif blank c then Bz false t else bif pre [47, 47] (c :: t) then Bz true t else c :: t
structure Tok where
 kind : Nat
 text : Bs
 num : Nat
def FN : Tok := ⟨0, [], 0⟩
def YG : Nat -> Bs -> Option Nat
 | n, [] => some n
 | n, c :: l => bif decide (288230376151711744 < n * 10 + (c.toNat - 48)) then none else YG (n * 10 + (c.toNat - 48)) l
def Xb (t : Tok) : Nat × Tok := bif decide (40 < t.text.length) then (4, FN) else (0, t)
def Gg : Bs -> Nat × Tok
 | [] => (0, FN)
 | c :: l =>
  bif great c then Xb ⟨2, (c :: l).takeWhile inner, 0⟩ else
  bif small c then Xb ⟨bif decide ((c :: l).takeWhile inner ∈ Pv) then 1 else 3, (c :: l).takeWhile inner, 0⟩ else
  bif digit c then (match YG 0 ((c :: l).takeWhile digit) with | none => (22, FN) | some n => (0, ⟨4, (c :: l).takeWhile digit, n⟩)) else
  match EJ.find? (fun m => pre m (c :: l)) with | none => (20, FN) | some m => (0, ⟨5, m, 0⟩)
def lM : Nat -> Bs -> Nat × List Tok
 | 0, _ => (0, [])
 | f + 1, r =>
  bif decide ((Gg (Bz false r)).1 = 0) then
   bif decide ((Gg (Bz false r)).2.kind = 0) then (0, [(Gg (Bz false r)).2])
   else ((lM f ((Bz false r).drop (Gg (Bz false r)).2.text.length)).1, (Gg (Bz false r)).2 :: (lM f ((Bz false r).drop (Gg (Bz false r)).2.text.length)).2)
  else ((Gg (Bz false r)).1, [])
def wL (s : Bs) : Nat × List Tok := bif decide (65536 < s.length) then (4, []) else lM (s.length + 1) s
end Go.PQ
namespace Go.PQ
open Go.Eng
set_option maxRecDepth 100000
section
variable {G : AP} {H : Heap} {n : Nat} {k : KV}
theorem AEN {c : UInt8} (hk : k (.bool (great c)) H n) : Runs F G dI [.int .u8 (.ofNat c.toNat) 0] H n k := by
 refine BZ (s := Eu (UW lfp G)) ZK (by obtain ⟨h, o⟩ := kX BX G; rw [ZK] at h; cases h; exact o) ?_
 show UW lfp G (Runs F G) (.int .u8 (.ofNat c.toNat) 0) H n k
 delta UW
 unfold great at hk
 simp only [go_sem, ZT, oI]
 cases h : decide (65 <= c.toNat) <;> rw [h] at hk <;> simp only [go_sem, oI] <;> exact hk
theorem ADq {c : UInt8} (hk : k (.bool (small c)) H n) : Runs F G Zx [.int .u8 (.ofNat c.toNat) 0] H n k := by
 refine BZ (s := Eu (TN lfp G)) Yj (by obtain ⟨h, o⟩ := jg BX G; rw [Yj] at h; cases h; exact o) ?_
 show TN lfp G (Runs F G) (.int .u8 (.ofNat c.toNat) 0) H n k
 delta TN
 unfold small at hk
 simp only [go_sem, ZT, oI]
 cases h : decide (97 <= c.toNat) <;> rw [h] at hk <;> simp only [go_sem, oI] <;> exact hk
theorem zO {c : UInt8} (hk : k (.bool (digit c)) H n) : Runs F G Wy [.int .u8 (.ofNat c.toNat) 0] H n k := by
 refine BZ (s := Eu (TF lfp G)) ZA (by obtain ⟨h, o⟩ := jW BX G; rw [ZA] at h; cases h; exact o) ?_
 show TF lfp G (Runs F G) (.int .u8 (.ofNat c.toNat) 0) H n k
 delta TF
 unfold digit at hk
 simp only [go_sem, ZT, oI]
 cases h : decide (48 <= c.toNat) <;> rw [h] at hk <;> simp only [go_sem, oI] <;> exact hk
theorem AEL {c : UInt8} (hk : k (.bool (inner c)) H n) : Runs F G dB [.int .u8 (.ofNat c.toNat) 0] H n k := by
 refine BZ (s := Eu (TV lfp G)) ZH (by obtain ⟨h, o⟩ := lQ BX G; rw [ZH] at h; cases h; exact o) ?_
 show TV lfp G (Runs F G) (.int .u8 (.ofNat c.toNat) 0) H n k
 delta TV
 unfold inner at hk
 refine AEN ?_
 cases h1 : great c with
 | true => rw [h1] at hk; simp only [go_sem]; exact hk
 | false =>
  rw [h1] at hk; simp only [go_sem]
  refine ADq ?_
  cases h2 : small c with
  | true => rw [h2] at hk; simp only [go_sem]; exact hk
  | false =>
   rw [h2] at hk; simp only [go_sem]
   refine zO ?_
   cases h3 : digit c with
   | true => rw [h3] at hk; simp only [go_sem]; exact hk
   | false => rw [h3] at hk; simp only [go_sem, RH]; exact hk
theorem pO {p l : Bs} (hk : k (.bool (pre p l)) H n) : Runs F G KW [sB l, sB p] H n k := by
 refine BZ (s := QM (IZ lfp G)) Nu (by obtain ⟨h, o⟩ := TM BX G; rw [Nu] at h; cases h; exact o) ?_
 show IZ lfp G (Runs F G) (sB l) (sB p) H n k
 delta IZ
 refine BZ (s := QM (DT lfp G)) FI (by obtain ⟨h, o⟩ := JM BX G; rw [FI] at h; cases h; exact o) ?_
 show DT lfp G (Runs F G) (sB l) (sB p) H n k
 delta DT
 unfold pre at hk
 simp only [go_sem, fV, ZT]
 cases h : decide (p.length <= l.length) with
 | true =>
  have hle := of_decide_eq_true h
  rw [h] at hk; simp only [go_sem, fV, ASa hle, yQ]; exact hk
 | false => rw [h] at hk; simp only [go_sem]; exact hk
theorem ABV {l : Bs} {b : Nat} (hb : b < 256) (hk : k (.int .i64 (kP b l 0) 0) H n) : Runs F G Ox [sB l, .int .u8 (.ofNat b) 0] H n k := by
 refine BZ (s := QM (Ii lfp G)) N9 (by obtain ⟨h, o⟩ := Tt BX G; rw [N9] at h; cases h; exact o) ?_
 show Ii lfp G (Runs F G) (sB l) (.int .u8 (.ofNat b) 0) H n k
 delta Ii
 refine BZ (s := QM (DN lfp G)) FK (by obtain ⟨h, o⟩ := JQ BX G; rw [FK] at h; cases h; exact o) ?_
 show DN lfp G (Runs F G) (sB l) (.int .u8 (.ofNat b) 0) H n k
 delta DN
 simp only [go_sem, AS8 hb]
 exact hk
theorem AIj {l : Bs} (hk : k (.bool (decide (l ∈ Pv))) H n) : Runs F G qE [sB l] H n k := by
 refine BZ (s := Eu (Sz lfp G)) ZC (by obtain ⟨h, o⟩ := lS BX G; rw [ZC] at h; cases h; exact o) ?_
 show Sz lfp G (Runs F G) (sB l) H n k
 delta Sz
 have e : decide (l ∈ Pv) = Pv.any fun w => decide (l = w) := by rw [Bool.eq_iff_iff]; simp
 rw [e] at hk
 unfold Pv at hk
 simp only [ATi, ACv, AKT, AMk, AE9, AJX, AKB, ATT, AG8, ASs, AGg, AQf, AGk, AQs, AMF, AIO, AHC, AGC, AMR, AL4, AJW]
 have fin : ∀ b : Bool, k (.bool b) H n -> BJ lfp G (Runs F G) k (.bool b) H n := by
  intro b hb
  delta BJ
  cases b <;> exact hb
 repeat' (
  rw [yQ, Au]
  rw [List.any_cons] at hk
  refine (fun (b : Bool) (P Q : Prop) (h1 : b = true -> P) (h2 : b = false -> Q) => (by cases b; exact h2 rfl; exact h1 rfl : Ac (.bool b) true P Q)) _ _ _ (fun hb => ?_) (fun hb => ?_)
  ·rw [hb] at hk; first | (rw [hb]; exact fin _ hk) | exact hk
  rw [hb, Bool.false_or] at hk)
 exact hk
theorem AEE {a b : Nat} (h : a * b < 9223372036854775808) : B2.ev .mul (.int .i64 (.ofNat a) 0) (.int .i64 (.ofNat b) 0) = some (.int .i64 (.ofNat (a * b)) 0) := by
 show some (V.int .i64 (QD .i64 (Int.mul (.ofNat a) (.ofNat b))) 0) = _
 have e : Int.mul (.ofNat a) (.ofNat b) = .ofNat (a * b) := rfl
 rw [Qw, e, Vf (by show (-9223372036854775808 : Int) <= ((a * b : Nat) : Int); omega) (by show ((a * b : Nat) : Int) < _; omega)]
theorem ANB {a b : Nat} (hb : b <= a) (h : a < 256) : B2.ev .sub (.int .u8 (.ofNat a) 0) (.int .u8 (.ofNat b) 0) = some (.int .u8 (.ofNat (a - b)) 0) := by
 show some (V.int .u8 (QD .u8 (wB (.ofNat a) (Int.neg (.ofNat b)))) 0) = _
 rw [dh]
 have e : Int.ofNat a + Int.neg (Int.ofNat b) = Int.ofNat (a - b) := by show (a : Int) + -(b : Int) = ((a - b : Nat) : Int); omega
 rw [e]
 have : inr .u8 (.ofNat (a - b)) = true := by show Nat.blt (a - b) 256 = true; rw [Nat.blt_eq]; omega
 unfold QD; rw [this]
theorem ADp {q : IntKind} {a : Nat} (h : a < 9223372036854775808) : VU .i64 (.int q (.ofNat a) 0) = some (.int .i64 (.ofNat a) 0) := by
 show some (V.int .i64 (QD .i64 (.ofNat a)) 0) = _
 rw [Qw, Vf (by show (-9223372036854775808 : Int) <= ((a : Nat) : Int); omega) (by show ((a : Nat) : Int) < _; omega)]
def ANP : Option Nat -> V
 | none => .Gh [.int .i64 (.ofNat 0) 0, .bool false]
 | some m => .Gh [.int .i64 (.ofNat m) 0, .bool true]
theorem AEw {l : Bs} {i : Nat} (h : i < l.length) : (N7 l)[i]? = some [V.int .u8 (.ofNat (l[i]).toNat) 0] := by simp [N7, h]
theorem AF0 {l : Bs} (hl : ∀ c ∈ l, digit c = true) (hs : l.length <= 65536) (hk : ∀ H', Kp H n H' (n + 1) -> k (ANP (YG 0 l)) H' (n + 1)) : Runs F G jd [sB l] H n k := by
 refine BZ (s := Eu (Qs lfp G)) Xa (by obtain ⟨h, o⟩ := fU BX G; rw [Xa] at h; cases h; exact o) ?_
 show Qs lfp G (Runs F G) (sB l) H n k
 delta Qs
 obtain ⟨R, hR⟩ : ∃ R, YG 0 l = R := ⟨_, rfl⟩
 rw [hR] at hk
 refine AJT (G := G) fun H1 v f1 hv => ?_
 simp only [go_sem, hv.len, show (N7 l).length = l.length from List.length_map ..]
 refine SA (N := l.length) (J := fun j q => ∃ a, q = (.int .i64 (.ofNat a) 0, v, .int .i64 (.ofNat l.length) 0, .int .i64 (.ofNat j) 0, H1, n + 1) /\ a <= 288230376151711744 /\ YG a (l.drop j) = R) ?_ ?_ ⟨0, rfl, by omega, hR⟩
 ·rintro I j q hlt ⟨a, rfl, ha, he⟩ ih
  show MN lfp G (Runs F G) k I (.int .i64 (.ofNat a) 0) v (.int .i64 (.ofNat l.length) 0) (.int .i64 (.ofNat j) 0) H1 (n + 1)
  delta MN
  obtain ⟨p, hp, hld⟩ := hv.at (AEw hlt)
  rw [List.drop_eq_getElem_cons hlt] at he
  have hd := hl _ (List.getElem_mem hlt)
  generalize l[j] = c at hld he hd
  simp only [digit, Bool.and_eq_true, decide_eq_true_eq] at hd
  unfold YG at he
  simp only [go_sem, P7, hlt, decide_true, hp, bK hld, AEE (show a * 10 < 9223372036854775808 by omega), ANB hd.1 (show c.toNat < 256 by omega), ADp (show c.toNat - 48 < 9223372036854775808 by omega), La (show a * 10 + (c.toNat - 48) < 9223372036854775808 by omega), fZ]
  cases h : decide (288230376151711744 < a * 10 + (c.toNat - 48)) with
  | true => rw [h] at he; simp only [go_sem]; have := hk _ f1; rw [<- he] at this; exact this
  | false =>
   rw [h] at he; simp only [go_sem, La (show j + 1 < 9223372036854775808 by omega)]
   exact ih _ ⟨_, rfl, by simpa using h, he⟩
 ·rintro I q ⟨a, rfl, ha, he⟩
  show MN lfp G (Runs F G) k I (.int .i64 (.ofNat a) 0) v (.int .i64 (.ofNat l.length) 0) (.int .i64 (.ofNat l.length) 0) H1 (n + 1)
  delta MN
  rw [List.drop_eq_nil_of_le (Nat.le_refl _)] at he
  simp only [go_sem, P7, Nat.lt_irrefl, decide_false]
  delta Us
  have := hk _ f1
  rw [<- he] at this
  exact this
end
end Go.PQ
namespace Go.PQ
open Go.Eng
set_option maxRecDepth 100000
def zU (H : Heap) (lb : Nat) (s : Bs) (a : Nat) : Prop := ∃ line col : Nat, 1 <= line /\ 1 <= col /\ line <= a + 1 /\ col <= a + 1 /\
 T.get H lb = some (one [sB s, .int .i64 (.ofNat a) 0, .int .i64 (.ofNat line) 0, .int .i64 (.ofNat col) 0])
theorem AF1 (q r : IntKind) (a b : Int) (z w : V) : BR [z, w] [(0, 1, .c (.int q a 0)), (1, 1, .c (.int r b 0))] = some (.agg [.int q a 0, .int r b 0]) := rfl
section
variable {G : AP} {H : Heap} {n lb a : Nat} {s : Bs} {k : KV}
theorem zU.kp {H' : Heap} {n' : Nat} (h : zU H lb s a) (hl : lb < n) (f : Kp H n H' n') : zU H' lb s a := by
 obtain ⟨line, col, h1, h2, h3, h4, hg⟩ := h
 exact ⟨line, col, h1, h2, h3, h4, f.get hg hl⟩
theorem AC9 {m : Nat} (h : zU H lb s a) (hm : a + m <= s.length) (hs : s.length <= 65536) (hk : ∀ H', Kx lb H n H' n -> zU H' lb s (a + m) -> k (.Gh []) H' n) :
    Runs F G I5 [.ptr lb 0, .int .i64 (.ofNat m) 0] H n k := by
  refine BZ (s := QM (LG lfp G)) Qy (by obtain ⟨h, o⟩ := Wh BX G; rw [Qy] at h; cases h; exact o) ?_
  show LG lfp G (Runs F G) (.ptr lb 0) (.int .i64 (.ofNat m) 0) H n k
  delta LG
  refine SA (N := m) (J := fun j q => ∃ H', q = (.ptr lb 0, .int .i64 (.ofNat m) 0, .int .i64 (.ofNat j) 0, H', n) /\ Kx lb H n H' n /\ zU H' lb s (a + j)) ?_ ?_ ⟨H, rfl, Kx.refl .., h⟩
  · rintro I j q hlt ⟨H1, rfl, f1, line, col, h1, h2, h3, h4, hg⟩ ih
    show Ie lfp G (Runs F G) k I (.ptr lb 0) (.int .i64 (.ofNat m) 0) (.int .i64 (.ofNat j) 0) H1 n
    delta Ie
    simp only [go_sem, P7, hlt, decide_true, Nat.reduceAdd, Ag (off := 3) hg (v := .int .i64 (.ofNat col) 0) rfl, La (show col + 1 < 9223372036854775808 by omega)]
    refine D7 hg rfl rfl (by omega) (by show 3 + 1 <= 4; omega) fun H2 hg2 s2 => ?_
    have hg2 : T.get H2 lb = some (one [sB s, .int .i64 (.ofNat (a + j)) 0, .int .i64 (.ofNat line) 0, .int .i64 (.ofNat (col + 1)) 0]) := hg2
    simp only [go_sem, Nat.reduceAdd, Ag (off := 0) hg2 (v := sB s) rfl, Ag (off := 1) hg2 (v := .int .i64 (.ofNat (a + j)) 0) rfl, ABx (show a + j < s.length by omega), RH]
    have f2 : Kx lb H n H2 n := f1.trans ⟨Nat.le_refl _, fun id _ hb => s2 id hb⟩
    have fin : ∀ (H3 : Heap) (line col : Nat), Kx lb H n H3 n -> 1 <= line -> 1 <= col -> line <= a + j + 2 -> col <= a + j + 2 ->
        T.get H3 lb = some (one [sB s, .int .i64 (.ofNat (a + j)) 0, .int .i64 (.ofNat line) 0, .int .i64 (.ofNat col) 0]) ->
        Hf lfp G (Runs F G) k I (.ptr lb 0) (.int .i64 (.ofNat m) 0) (.int .i64 (.ofNat j) 0) H3 n := by
      intro H3 line col f3 h1 h2 h3 h4 hg3
      delta Hf
      simp only [go_sem, Nat.reduceAdd, Ag (off := 1) hg3 (v := .int .i64 (.ofNat (a + j)) 0) rfl, La (show a + j + 1 < 9223372036854775808 by omega)]
      refine D7 hg3 rfl rfl (by omega) (by show 1 + 1 <= 4; omega) fun H4 hg4 s4 => ?_
      simp only [go_sem, La (show j + 1 < 9223372036854775808 by omega)]
      exact ih _ ⟨_, rfl, f3.trans ⟨Nat.le_refl _, fun id _ hb => s4 id hb⟩, line, col, h1, h2, by omega, by omega, hg4⟩
    cases hc : decide ((s[a + j]).toNat = 10) with
    | true =>
      simp only [go_sem, Nat.reduceAdd, Ag (off := 2) hg2 (v := .int .i64 (.ofNat line) 0) rfl, La (show line + 1 < 9223372036854775808 by omega), AF1]
      refine D7 hg2 rfl rfl (by omega) (by show 2 + 2 <= 4; omega) fun H3 hg3 s3 => ?_
      exact fin H3 (line + 1) 1 (f2.trans ⟨Nat.le_refl _, fun id _ hb => s3 id hb⟩) (by omega) (by omega) (by omega) (by omega) hg3
    | false =>
      simp only [go_sem]
      exact fin H2 line (col + 1) f2 (by omega) (by omega) (by omega) (by omega) hg2
  · rintro I q ⟨H1, rfl, f1, h⟩
    show Ie lfp G (Runs F G) k I (.ptr lb 0) (.int .i64 (.ofNat m) 0) (.int .i64 (.ofNat m) 0) H1 n
    delta Ie
    simp only [go_sem, P7, Nat.lt_irrefl, decide_false]
    exact hk _ f1 h
def toEnd : Bs -> Nat
 | [] => 0
 | c :: l => bif decide (c.toNat = 10) then 0 else toEnd l + 1
theorem AAx : ∀ l : Bs, toEnd l <= l.length
 | [] => Nat.le_refl _
 | c :: l => by
  have := AAx l
  unfold toEnd
  cases decide (c.toNat = 10) <;> simp [this]
theorem yA : ∀ (l : Bs) (i : Nat), kP 10 l i = if toEnd l = l.length then -1 else ((i + toEnd l : Nat) : Int)
 | [], i => rfl
 | c :: l, i => by
  have ih := yA l (i + 1)
  rw [show kP 10 (c :: l) i = bif decide (c.toNat = 10) then .ofNat i else kP 10 l (i + 1) from rfl, show toEnd (c :: l) = bif decide (c.toNat = 10) then 0 else toEnd l + 1 from rfl]
  cases h : decide (c.toNat = 10) with
  | true => simp
  | false =>
   simp only [cond_false, ih, List.length_cons, Nat.add_right_cancel_iff]
   split
   ·rfl
   ·congr 1; omega
theorem ABJ : ∀ l : Bs, Bz true l = Bz false (l.drop (toEnd l))
 | [] => rfl
 | c :: l => by
  rw [show Bz true (c :: l) = bif decide (c.toNat = 10) then Bz false l else Bz true l from rfl, show toEnd (c :: l) = bif decide (c.toNat = 10) then 0 else toEnd l + 1 from rfl]
  cases h : decide (c.toNat = 10) with
  | true =>
   have hb : blank c = true := by simp only [blank, h, Bool.or_true, Bool.true_or]
   simp [Bz, hb]
  | false => simp only [cond_false, List.drop_succ_cons]; exact ABJ l
theorem cu : ∀ (b : Bool) (l : Bs), (Bz b l).length <= l.length
 | _, [] => by simp [Bz]
 | true, c :: l => by
  rw [show Bz true (c :: l) = bif decide (c.toNat = 10) then Bz false l else Bz true l from rfl]
  have h1 := cu false l; have h2 := cu true l
  cases decide (c.toNat = 10) <;> simp <;> omega
 | false, c :: l => by
  rw [show Bz false (c :: l) = bif blank c then Bz false l else bif pre [47, 47] (c :: l) then Bz true l else c :: l from rfl]
  have h1 := cu false l; have h2 := cu true l
  cases blank c <;> cases pre [47, 47] (c :: l) <;> simp <;> omega
theorem APM : V.str 2 12079 = sB [47, 47] := rfl
theorem ANw (h : zU H lb s a) (ha : a <= s.length) (hs : s.length <= 65536) (hk : ∀ H' a', Kx lb H n H' n -> zU H' lb s a' -> a' <= s.length -> s.drop a' = Bz false (s.drop a) -> k (.Gh []) H' n) :
    Runs F G X6 [.ptr lb 0] H n k := by
  refine BZ (s := Eu (LK lfp G)) QO (by obtain ⟨h, o⟩ := XF BX G; rw [QO] at h; cases h; exact o) ?_
  show LK lfp G (Runs F G) (.ptr lb 0) H n k
  delta LK
  obtain ⟨R, hR⟩ : ∃ R, Bz false (s.drop a) = R := ⟨_, rfl⟩
  rw [hR] at hk
  refine LC (J := fun m q => ∃ H' a', m = s.length - a' /\ q = (.ptr lb 0, H', n) /\ Kx lb H n H' n /\ zU H' lb s a' /\ a' <= s.length /\ Bz false (s.drop a') = R) ?_ (m := s.length - a) ⟨H, a, rfl, rfl, Kx.refl .., h, ha, hR⟩
  rintro I m q ⟨H1, b, rfl, rfl, f1, h1, hb, hR⟩ ih
  show Oy lfp G (Runs F G) k I (.ptr lb 0) H1 n
  delta Oy
  obtain ⟨line, col, _, _, _, _, hg⟩ := id h1
  have e0 : AZ (.ptr lb 0) G H1 = some (sB s) := Ag hg rfl
  have e1 : AZ (.ptr lb 1) G H1 = some (.int .i64 (.ofNat b) 0) := Ag hg rfl
  simp only [go_sem, Nat.reduceAdd, e0, e1, fV, P7]
  rcases Nat.lt_or_ge b s.length with hlt | hge
  · simp only [hlt, decide_true, go_sem, Nat.reduceAdd, e0, e1, ABx hlt, RH]
    have hR' := hR
    rw [List.drop_eq_getElem_cons hlt, show ∀ (c : UInt8) (l : Bs), Bz false (c :: l) = bif blank c then Bz false l else bif pre [47, 47] (c :: l) then Bz true l else c :: l from fun _ _ => rfl, <- List.drop_eq_getElem_cons hlt] at hR'
    have step1 : blank s[b] = true -> Runs F G I5 [.ptr lb 0, .int .i64 (.ofNat 1) 0] H1 n fun _ H n => I (.ptr lb 0, H, n) := by
      intro hbl
      rw [hbl] at hR'
      refine AC9 h1 (by omega) hs fun H2 f2 h2 => ih (s.length - (b + 1)) _ (by omega) ⟨H2, b + 1, rfl, rfl, f1.trans f2, h2, by omega, hR'⟩
    have fin : ∀ m', b + m' <= s.length -> 0 < m' -> Bz false (s.drop (b + m')) = R -> EL lfp G (Runs F G) k I (.ptr lb 0) (.int .i64 (.ofNat m') 0) H1 n := by
      intro m' h2 h3 h4
      delta EL
      exact AC9 h1 h2 hs fun H2 f2 h2 => ih (s.length - (b + m')) _ (by omega) ⟨H2, b + m', rfl, rfl, f1.trans f2, h2, by omega, h4⟩
    have step2 : blank s[b] = false -> Runs F G KW [sB (s.drop b), sB [47, 47]] H1 n fun v35 H n => Ac v35 true (AU (BF (.ptr lb 0)) fun v36=>
        AU (AX 0 v36) fun v37=> AU (AZ v37 G H) fun v38=> AU (BF (.ptr lb 0)) fun v39=> AU (AX 1 v39) fun v40=> AU (AZ v40 G H) fun v41=> AU (Rf v38 E0 (some (.c v41)) none) fun v42=>
        Runs F G Ox [v42, (.int .u8 (.ofNat 10) 0)] H n fun v43 H n=>
        AU (B2.ev .lss v43 (.int .i64 (.ofNat 0) 0)) fun v46=>
        Ac v46 true (AU (BF (.ptr lb 0)) fun v47=> AU (AX 0 v47) fun v48=> AU (AZ v48 G H) fun v49=> AU (YT v49) fun v50=> AU (BF (.ptr lb 0)) fun v51=> AU (AX 1 v51) fun v52=> AU (AZ v52 G H) fun v53=>
        AU (B2.ev .sub v50 v53) fun v54=> EL lfp G (Runs F G) k I (.ptr lb 0) v54 H n) (EL lfp G (Runs F G) k I (.ptr lb 0) v43 H n)) (k (.Gh []) H n) := by
      intro hbl
      rw [hbl] at hR'
      refine pO ?_
      cases hp : pre [47, 47] (s.drop b) with
      | false =>
        rw [hp] at hR'
        simp only [go_sem]
        exact hk _ _ f1 h1 hb hR'
      | true =>
        rw [hp, cond_false, cond_true, ABJ, List.drop_drop] at hR'
        have hne : (s[b]).toNat ≠ 10 := by
          intro e
          simp [blank, e] at hbl
        simp only [go_sem, Nat.reduceAdd, e0, e1, ACH hb]
        refine ABV (by omega) ?_
        have hte : toEnd (s.drop b) = toEnd (s.drop (b + 1)) + 1 := by
          rw [List.drop_eq_getElem_cons hlt, show toEnd (s[b] :: s.drop (b + 1)) = bif decide ((s[b]).toNat = 10) then 0 else toEnd (s.drop (b + 1)) + 1 from rfl, decide_eq_false hne]; rfl
        have hle := AAx (s.drop b)
        rw [yA]
        rw [List.length_drop] at hle ⊢
        rw [show b + 1 + toEnd (s.drop (b + 1)) = b + toEnd (s.drop b) by omega] at hR'
        split
        · rename_i he
          have e : B2.ev .lss (.int .i64 (-1) 0) (.int .i64 (.ofNat 0) 0) = some (.bool true) := rfl
          simp only [go_sem, e, Nat.reduceAdd, e0, e1, fV, yE hb (show s.length < 9223372036854775808 by omega)]
          rw [he] at hR'
          exact fin _ (by omega) (by omega) hR'
        · rw [Nat.zero_add]
          have e : B2.ev .lss (.int .i64 ((toEnd (s.drop b) : Nat) : Int) 0) (.int .i64 (.ofNat 0) 0) = some (.bool false) := by
            refine (P7 .i64 _ _).trans ?_
            simp
          simp only [go_sem, e]
          exact fin (toEnd (s.drop b)) (by omega) (by omega) hR'
    cases c1 : decide ((s[b]).toNat = 32) with
    | true => simp only [go_sem]; exact step1 (by simp [blank, c1])
    | false =>
      simp only [go_sem, RH]
      cases c2 : decide ((s[b]).toNat = 9) with
      | true => simp only [go_sem]; exact step1 (by simp [blank, c2])
      | false =>
        simp only [go_sem, RH]
        cases c3 : decide ((s[b]).toNat = 10) with
        | true => simp only [go_sem]; exact step1 (by simp [blank, c3])
        | false =>
          simp only [go_sem, RH]
          cases c4 : decide ((s[b]).toNat = 13) with
          | true => simp only [go_sem]; exact step1 (by simp [blank, c4])
          | false =>
            simp only [go_sem, Nat.reduceAdd, e0, e1, ACH hb, APM]
            exact step2 (by simp [blank, c1, c2, c3, c4])
  · have : b = s.length := by omega
    subst this
    simp only [Nat.lt_irrefl, decide_false, go_sem]
    rw [List.drop_eq_nil_of_le (Nat.le_refl _), show Bz false [] = [] from rfl] at hR
    exact hk _ _ f1 h1 (Nat.le_refl _) (by rw [List.drop_eq_nil_of_le (Nat.le_refl _)]; exact hR)
theorem ABH (g : UInt8 -> Bool) : ∀ l : Bs, (l.takeWhile g).length <= l.length
 | [] => Nat.le_refl _
 | c :: l => by have := ABH g l; rw [List.takeWhile_cons]; split <;> simp <;> omega
theorem AD7 (g : UInt8 -> Bool) : ∀ l : Bs, l.take (l.takeWhile g).length = l.takeWhile g
  | [] => rfl
  | c :: l => by rw [List.takeWhile_cons]; split; · simp [AD7 g l]
                 · rfl
def ANs (G : AP) (f : Nat) (g : UInt8 -> Bool) : Prop := ∀ (c : UInt8) (H : Heap) (n : Nat) (k : KV), k (.bool (g c)) H n -> Runs F G f [.int .u8 (.ofNat c.toNat) 0] H n k
theorem AFn {f : Nat} {g : UInt8 -> Bool} (hf : ANs G f g) (h : zU H lb s a) (ha : a <= s.length) (hs : s.length <= 65536) (hk : k (sB ((s.drop a).takeWhile g)) H n) :
    Runs F G PX [.ptr lb 0, .fn f [] []] H n k := by
  refine BZ (s := QM (MX lfp G)) SN (by obtain ⟨h, o⟩ := Xp BX G; rw [SN] at h; cases h; exact o) ?_
  show MX lfp G (Runs F G) (.ptr lb 0) (.fn f [] []) H n k
  delta MX
  obtain ⟨line, col, _, _, _, _, hg⟩ := id h
  have e0 : AZ (.ptr lb 0) G H = some (sB s) := Ag hg rfl
  have e1 : AZ (.ptr lb 1) G H = some (.int .i64 (.ofNat a) 0) := Ag hg rfl
  refine LC (J := fun m q => ∃ j, m = s.length - (a + j) /\ q = (.ptr lb 0, .fn f [] [], .int .i64 (.ofNat j) 0, H, n) /\ a + j <= s.length /\ j + ((s.drop (a + j)).takeWhile g).length = ((s.drop a).takeWhile g).length) ?_ (m := s.length - a)
    ⟨0, rfl, rfl, ha, by simp⟩
  rintro I m q ⟨j, rfl, rfl, hj, he⟩ ih
  show Ov lfp G (Runs F G) k I (.ptr lb 0) (.fn f [] []) (.int .i64 (.ofNat j) 0) H n
  delta Ov
  have fin : j = ((s.drop a).takeWhile g).length -> L6 lfp G (Runs F G) k (.ptr lb 0) (.int .i64 (.ofNat j) 0) H n := by
    intro hj2
    delta L6
    simp only [go_sem, Nat.reduceAdd, e0, e1, La (show a + j < 9223372036854775808 by omega), AGl (show a <= a + j by omega) hj]
    rw [show a + j - a = j by omega, hj2, AD7]
    exact hk
  simp only [go_sem, Nat.reduceAdd, e0, e1, fV, La (show a + j < 9223372036854775808 by omega), P7]
  rcases Nat.lt_or_ge (a + j) s.length with hlt | hge
  · simp only [hlt, decide_true, go_sem, Nat.reduceAdd, e0, e1, La (show a + j < 9223372036854775808 by omega), ABx hlt, dX]
    rw [List.drop_eq_getElem_cons hlt, List.takeWhile_cons] at he
    refine hf _ _ _ _ ?_
    cases hc : g s[a + j] with
    | true =>
      rw [hc] at he
      simp only [go_sem, La (show j + 1 < 9223372036854775808 by omega)]
      exact ih (s.length - (a + (j + 1))) _ (by omega) ⟨j + 1, rfl, rfl, by omega, by rw [show a + (j + 1) = a + j + 1 by omega, <- he]; simp; omega⟩
    | false =>
      rw [hc] at he
      simp only [go_sem]
      exact fin (by simpa using he)
  · have : ¬ a + j < s.length := by omega
    simp only [this, decide_false, go_sem]
    rw [List.drop_eq_nil_of_le hge] at he
    exact fin (by simpa using he)
end
end Go.PQ
namespace Go.PQ
open Go.Eng
set_option maxRecDepth 100000
def QK (t : Tok) (line col : Nat) : LV := [.int .i64 (.ofNat t.kind) 0, sB t.text, .int .i64 (.ofNat t.num) 0, .int .i64 (.ofNat line) 0, .int .i64 (.ofNat col) 0]
def nY (t : Tok) : Nat × Tok := bif decide (t.kind = 0) then (20, FN) else bif decide (40 < t.text.length) && !decide (t.kind = 4) then (4, FN) else (0, t)
def Qn (G : AP) : Prop := G 0 0 22 = some (EJ.map sB)
def ABD (k : KV) (H : Heap) (n lb : Nat) (s : Bs) (a : Nat) (r : Nat × Tok) : Prop := ∀ (H' : Heap) (n' : Nat) (c : LV), Kx lb H n H' n' -> zU H' lb s (a + r.2.text.length) -> c.length = 5 -> (r.1 = 0 -> ∃ line col, 1 <= line /\ 1 <= col /\ c = QK r.2 line col) ->
 k (.Gh [.agg c, .int .i64 (.ofNat r.1) 0]) H' n'
section
variable {G : AP} {H : Heap} {n lb a : Nat} {s : Bs} {k : KV}
theorem zB {z0 z1 z2 z3 z4 : V} : BR [z0, z1, z2, z3, z4] [] = some (.agg [z0, z1, z2, z3, z4]) := rfl
theorem AJ5 {z0 z1 z2 z3 z4 a b : V} : BR [z0, z1, z2, z3, z4] [(3, 2, .c (.agg [a, b]))] = some (.agg [z0, z1, z2, a, b]) := rfl
theorem AAz {H0 : Heap} {n0 p q : Nat} {t : Tok} {line col : Nat} {z0 z1 z2 z3 z4 : V} (f0 : Kx lb H0 n0 H n) (hp : T.get H p = some (one [z0, z1, z2, z3, z4])) (hq : T.get H q = some (one (QK t line col))) (hpq : p ≠ q) (hpl : p ≠ lb) (hql : q ≠ lb)
    (hp0 : n0 <= p) (hpn : p < n) (hqn : q < n) (h : zU H lb s a) (ha : a + t.text.length <= s.length) (hs : s.length <= 65536) (h1 : 1 <= line) (h2 : 1 <= col) (hk : ABD k H0 n0 lb s a (nY t)) :
    Cc lfp G (Runs F G) k (.ptr lb 0) (.ptr p 0) (.ptr q 0) H n := by
  delta Cc
  have q0 : AZ (.ptr q 0) G H = some (.int .i64 (.ofNat t.kind) 0) := Ag hq rfl
  have q1 : AZ (.ptr q 1) G H = some (sB t.text) := Ag hq rfl
  unfold nY at hk
  simp only [go_sem, Nat.reduceAdd, q0, RH]
  have zz : ∀ e : Nat, ABD k H0 n0 lb s a (e, FN) -> e ≠ 0 -> Bj 5 (.ptr p 0) (.agg [.int .i64 (.ofNat 0) 0, .str 0 0, .int .i64 (.ofNat 0) 0, .int .i64 (.ofNat 0) 0, .int .i64 (.ofNat 0) 0]) H n fun _ H n =>
      FM (BQ [.cn (.ptr p 0) 5, .t (.int .i64 (.ofNat e) 0)] G H) fun l => k (E8 l) H n := by
    intro e hk he
    rw [VP (m := 5) hp (by omega) rfl rfl, BL (m := 5) (T.Ap ..) (by omega) rfl]
    simp only [go_sem]
    obtain ⟨line, col, x1, x2, x3, x4, hg⟩ := h
    refine hk _ _ _ ⟨f0.le, fun id hid hb => ?_⟩ ⟨line, col, x1, x2, x3, x4, ?_⟩ rfl (fun h => absurd h he)
    · rw [T.Am _ _ (by omega)]; exact f0.same id hid hb
    · rw [T.Am _ _ hpl]; exact hg
  cases c1 : decide (t.kind = 0) with
  | true =>
    rw [c1] at hk
    simp only [go_sem, zB]
    exact zz 20 hk (by omega)
  | false =>
    rw [c1] at hk
    simp only [go_sem, Nat.reduceAdd, q1, fV, fZ]
    have fin : ABD k H0 n0 lb s a (0, t) -> Runs F G I5 [.ptr lb 0, .int .i64 (.ofNat t.text.length) 0] H n fun _ H n => AU (BH 5 (.ptr q 0) G H) fun v45 =>
        Bj 5 (.ptr p 0) v45 H n fun v46 H n => FM (BQ [.cn (.ptr p 0) 5, .t (.int .i64 (.ofNat 0) 0)] G H) fun l => k (E8 l) H n := by
      intro hk
      refine AC9 h ha hs fun H2 f2 h2 => ?_
      have hq2 : T.get H2 q = _ := f2.get hq hqn hql
      have hp2 : T.get H2 p = _ := f2.get hp hpn hpl
      rw [Aj (m := 5) hq2 (by omega) rfl, Au, VP (m := 5) hp2 (by omega) rfl rfl, BL (m := 5) (T.Ap ..) (by omega) rfl]
      simp only [go_sem]
      have f3 := f0.trans f2
      obtain ⟨l1, c1, x1, x2, x3, x4, hg⟩ := h2
      refine hk _ _ _ ⟨f3.le, fun id hid hb => ?_⟩ ⟨l1, c1, x1, x2, x3, x4, ?_⟩ rfl fun _ => ⟨line, col, h1, h2, rfl⟩
      · rw [T.Am _ _ (by omega)]; exact f3.same id hid hb
      · rw [T.Am _ _ hpl]; exact hg
    cases c2 : decide (40 < t.text.length) with
    | false =>
      rw [c2] at hk
      simp only [go_sem, Nat.reduceAdd, q1, fV]
      exact fin hk
    | true =>
      rw [c2] at hk
      simp only [go_sem, Nat.reduceAdd, q0, eu]
      cases c3 : decide (t.kind = 4) with
      | true =>
        rw [c3] at hk
        simp only [Bool.not_true, go_sem, Nat.reduceAdd, q1, fV]
        exact fin hk
      | false =>
        rw [c3] at hk
        simp only [Bool.not_false, go_sem, zB]
        exact zz 4 hk (by omega)
theorem Ko {m o id : Nat} {L : LV} (h : T.get H id = some (one L)) (hm : 0 < m) (hl : o + m <= L.length) : BH m (.ptr id o) G H = some (.agg ((L.drop o).take m)) := AD0 h hm hl
theorem AL7 (hG : Qn G) (h : zU H lb s a) (ha : a <= s.length) (hs : s.length <= 65536) (hlb : lb < n) (hk : ABD k H n lb s a (Gg (s.drop a))) :
    Runs F G YE [.ptr lb 0] H n k := by
  refine BZ (s := Eu (LQ lfp G)) Qz (by obtain ⟨h, o⟩ := WZ BX G; rw [Qz] at h; cases h; exact o) ?_
  show LQ lfp G (Runs F G) (.ptr lb 0) H n k
  delta LQ
  obtain ⟨line, col, x1, x2, x3, x4, hg⟩ := id h
  have hne : lb ≠ n := by omega
  have hne1 : lb ≠ n + 1 := by omega
  have d0 : AZ (.ptr lb 0) G H = some (sB s) := Ag hg rfl
  have d1 : AZ (.ptr lb 1) G H = some (.int .i64 (.ofNat a) 0) := Ag hg rfl
  have e2 : BH 2 (.ptr lb 2) G H = some (.agg [.int .i64 (.ofNat line) 0, .int .i64 (.ofNat col) 0]) := Ko hg (by omega) (by show 2 + 2 <= 4; omega)
  simp only [go_sem, Nat.reduceAdd, hne, hne1, e2, AJ5]
  rw [T.set_set]
  have f1 : Kp H n (T.set (T.set H n (one [.int .i64 (.ofNat 0) 0, .str 0 0, .int .i64 (.ofNat 0) 0, .int .i64 (.ofNat 0) 0, .int .i64 (.ofNat 0) 0])) (n + 1) (one [.int .i64 (.ofNat 0) 0, .str 0 0, .int .i64 (.ofNat 0) 0, .int .i64 (.ofNat line) 0, .int .i64 (.ofNat col) 0])) (n + 1 + 1) :=
    ((Kp.refl H n).new (m := n + 1) _ (Nat.le_refl _) (by omega)).new _ (by omega) (by omega)
  have g1 := (T.Am (T.set H n (one [V.int .i64 (.ofNat 0) 0, .str 0 0, .int .i64 (.ofNat 0) 0, .int .i64 (.ofNat 0) 0, .int .i64 (.ofNat 0) 0])) (one [.int .i64 (.ofNat 0) 0, .str 0 0, .int .i64 (.ofNat 0) 0, .int .i64 (.ofNat line) 0, .int .i64 (.ofNat col) 0]) (show n + 1 ≠ n by omega)).trans (T.Ap ..)
  have g2 := T.Ap (T.set H n (one [V.int .i64 (.ofNat 0) 0, .str 0 0, .int .i64 (.ofNat 0) 0, .int .i64 (.ofNat 0) 0, .int .i64 (.ofNat 0) 0])) (n + 1) (one [V.int .i64 (.ofNat 0) 0, .str 0 0, .int .i64 (.ofNat 0) 0, .int .i64 (.ofNat line) 0, .int .i64 (.ofNat col) 0])
  generalize T.set (T.set H n (one [V.int .i64 (.ofNat 0) 0, .str 0 0, .int .i64 (.ofNat 0) 0, .int .i64 (.ofNat 0) 0, .int .i64 (.ofNat 0) 0])) (n + 1) (one [V.int .i64 (.ofNat 0) 0, .str 0 0, .int .i64 (.ofNat 0) 0, .int .i64 (.ofNat line) 0, .int .i64 (.ofNat col) 0]) = H1 at f1 g1 g2 ⊢
  have h := h.kp hlb f1
  have hg := f1.get hg hlb
  have e0 : AZ (.ptr lb 0) G H1 = some (sB s) := Ag hg rfl
  have e1 : AZ (.ptr lb 1) G H1 = some (.int .i64 (.ofNat a) 0) := Ag hg rfl
  simp only [go_sem, d0, d1, fV, RH]
  have g2 : T.get H1 (n + 1) = some (one (QK FN line col)) := g2
  rcases Nat.lt_or_ge a s.length with hlt | hge
  case inr =>
    have : a = s.length := by omega
    subst this
    simp only [decide_true, go_sem]
    rw [List.drop_eq_nil_of_le (Nat.le_refl _)] at hk
    rw [VP (m := 5) g1 (by omega) rfl rfl, BL (m := 5) (T.Ap ..) (by omega) rfl]
    simp only [go_sem]
    obtain ⟨l1, c1, y1, y2, y3, y4, hg⟩ := h
    refine hk _ _ _ ((f1.set _ (Nat.le_refl _)).kx) ⟨l1, c1, y1, y2, y3, y4, ?_⟩ rfl fun _ => ⟨line, col, x1, x2, rfl⟩
    rw [T.Am _ _ (by omega)]; exact hg
  case inl =>
  have hd := List.drop_eq_getElem_cons hlt
  simp only [show decide (a = s.length) = false by simp; omega, go_sem, Nat.reduceAdd, d0, d1, ABx hlt]
  rw [hd, show ∀ (c : UInt8) (l : Bs), Gg (c :: l) = (bif great c then Xb ⟨2, (c :: l).takeWhile inner, 0⟩ else
    bif small c then Xb ⟨bif decide ((c :: l).takeWhile inner ∈ Pv) then 1 else 3, (c :: l).takeWhile inner, 0⟩ else
    bif digit c then (match YG 0 ((c :: l).takeWhile digit) with | none => (22, FN) | some n => (0, ⟨4, (c :: l).takeWhile digit, n⟩)) else
    match EJ.find? (fun m => pre m (c :: l)) with | none => (20, FN) | some m => (0, ⟨5, m, 0⟩)) from fun _ _ => rfl, <- hd] at hk
  have f0 := f1.kx (b := lb)
  have hq : n + 1 ≠ lb := by omega
  have fC : ∀ {H2 : Heap} {t : Tok} {kd : Nat} {P : KV}, T.get H2 (n + 1) = some (one (QK t line col)) -> (∀ H3, T.get H3 (n + 1) = some (one (QK { t with kind := kd } line col)) -> (∀ j, j ≠ n + 1 -> T.get H3 j = T.get H2 j) -> P .undef H3 (n + 1 + 1)) ->
      Bj 1 (.ptr (n + 1) 0) (.int .i64 (.ofNat kd) 0) H2 (n + 1 + 1) P := by
    intro H2 t kd P hg hP
    exact D7 hg rfl rfl (by omega) (by show 0 + 1 <= 5; omega) fun H3 g3 s3 => hP H3 g3 s3
  have AJK : ∀ {H2 : Heap} {t : Tok} {tx : Bs} {P : KV}, T.get H2 (n + 1) = some (one (QK t line col)) -> (∀ H3, T.get H3 (n + 1) = some (one (QK { t with text := tx } line col)) -> (∀ j, j ≠ n + 1 -> T.get H3 j = T.get H2 j) -> P .undef H3 (n + 1 + 1)) ->
      Bj 1 (.ptr (n + 1) 1) (sB tx) H2 (n + 1 + 1) P := by
    intro H2 t tx P hg hP
    exact D7 hg rfl rfl (by omega) (by show 1 + 1 <= 5; omega) fun H3 g3 s3 => hP H3 g3 s3
  have AX3 : ∀ {H2 : Heap} {t : Tok} {nu : Nat} {P : KV}, T.get H2 (n + 1) = some (one (QK t line col)) -> (∀ H3, T.get H3 (n + 1) = some (one (QK { t with num := nu } line col)) -> (∀ j, j ≠ n + 1 -> T.get H3 j = T.get H2 j) -> P .undef H3 (n + 1 + 1)) ->
      Bj 1 (.ptr (n + 1) 2) (.int .i64 (.ofNat nu) 0) H2 (n + 1 + 1) P := by
    intro H2 t nu P hg hP
    exact D7 hg rfl rfl (by omega) (by show 2 + 1 <= 5; omega) fun H3 g3 s3 => hP H3 g3 s3
  have only : ∀ {H2 H3 : Heap}, Kx lb H n H2 (n + 1 + 1) /\ T.get H2 n = T.get H1 n /\ zU H2 lb s a -> (∀ j, j ≠ n + 1 -> T.get H3 j = T.get H2 j) -> Kx lb H n H3 (n + 1 + 1) /\ T.get H3 n = T.get H1 n /\ zU H3 lb s a := by
    intro H2 H3 ⟨x, y, z⟩ hs
    obtain ⟨l1, c1, y1, y2, y3, y4, hg⟩ := z
    exact ⟨⟨by omega, fun id hid hb => (hs id (by omega)).trans (x.same id hid hb)⟩, (hs n (by omega)).trans y, l1, c1, y1, y2, y3, y4, (hs lb (by omega)).trans hg⟩
  have b0 : Kx lb H n H1 (n + 1 + 1) /\ T.get H1 n = T.get H1 n /\ zU H1 lb s a := ⟨f0, rfl, h⟩
  have fin : ∀ {H2 : Heap} {t : Tok}, Kx lb H n H2 (n + 1 + 1) /\ T.get H2 n = T.get H1 n /\ zU H2 lb s a -> T.get H2 (n + 1) = some (one (QK t line col)) -> a + t.text.length <= s.length -> ABD k H n lb s a (nY t) ->
      Cc lfp G (Runs F G) k (.ptr lb 0) (.ptr n 0) (.ptr (n + 1) 0) H2 (n + 1 + 1) := fun b g ht hk =>
    AAz b.1 (b.2.1.trans g1) g (by omega) (by omega) hq (by omega) (by omega) (by omega) b.2.2 ht hs x1 x2 hk
  have hin := ABH inner (s.drop a)
  have hdi := ABH digit (s.drop a)
  rw [List.length_drop] at hin hdi
  refine AEN ?_
  cases k1 : great s[a] with
  | true =>
    rw [k1] at hk
    simp only [go_sem]
    refine AFn (f := dB) (fun c H n k hk => AEL hk) h ha hs ?_
    refine fC g2 fun H2 g s2 => ?_
    refine AJK g fun H3 g s3 => ?_
    refine fin (only (only b0 s2) s3) g (by show a + (List.takeWhile inner (s.drop a)).length <= _; omega) ?_
    have e : nY ⟨2, (s.drop a).takeWhile inner, 0⟩ = Xb ⟨2, (s.drop a).takeWhile inner, 0⟩ := by simp [nY, Xb]
    exact e ▸ hk
  | false =>
    rw [k1] at hk
    simp only [go_sem]
    refine ADq ?_
    cases k2 : small s[a] with
    | true =>
      rw [k2] at hk
      simp only [go_sem]
      refine AFn (f := dB) (fun c H n k hk => AEL hk) h ha hs ?_
      refine fC g2 fun H2 g s2 => ?_
      refine AJK g fun H3 g s3 => ?_
      have q1 : AZ (.ptr (n + 1) 1) G H3 = some (sB ((s.drop a).takeWhile inner)) := Ag g rfl
      simp only [go_sem, Nat.reduceAdd, q1]
      refine AIj ?_
      cases k3 : decide ((s.drop a).takeWhile inner ∈ Pv) with
      | true =>
        rw [k3] at hk
        simp only [go_sem, Nat.reduceAdd]
        refine fC g fun H4 g s4 => ?_
        refine fin (only (only (only b0 s2) s3) s4) g (by show a + (List.takeWhile inner (s.drop a)).length <= _; omega) ?_
        have e : nY ⟨1, (s.drop a).takeWhile inner, 0⟩ = Xb ⟨1, (s.drop a).takeWhile inner, 0⟩ := by simp [nY, Xb]
        exact e ▸ hk
      | false =>
        rw [k3] at hk
        simp only [go_sem]
        refine fin (only (only b0 s2) s3) g (by show a + (List.takeWhile inner (s.drop a)).length <= _; omega) ?_
        have e : nY ⟨3, (s.drop a).takeWhile inner, 0⟩ = Xb ⟨3, (s.drop a).takeWhile inner, 0⟩ := by simp [nY, Xb]
        exact e ▸ hk
    | false =>
      rw [k2] at hk
      simp only [go_sem]
      refine zO ?_
      cases k3 : digit s[a] with
      | true =>
        rw [k3] at hk
        simp only [go_sem]
        refine AFn (f := Wy) (fun c H n k hk => zO hk) h ha hs ?_
        refine fC g2 fun H2 g s2 => ?_
        refine AJK g fun H3 g s3 => ?_
        have q1 : AZ (.ptr (n + 1) 1) G H3 = some (sB ((s.drop a).takeWhile digit)) := Ag g rfl
        simp only [go_sem, Nat.reduceAdd, q1]
        have b3 := only (only b0 s2) s3
        have htw : ∀ c ∈ (s.drop a).takeWhile digit, digit c = true := fun c hc => by
          have := List.all_takeWhile (l := s.drop a) (p := digit); exact List.all_eq_true.1 this c hc
        refine AF0 htw (by omega) fun H4 f4 => ?_
        have g4 := f4.get g (by omega)
        have b4 := b3.1.trans f4.kx
        have gn := f4.get (b3.2.1.trans g1) (by omega)
        have h4 := b3.2.2.kp (n := n + 1 + 1) (by omega) f4
        cases hnum : YG 0 ((s.drop a).takeWhile digit) with
        | none =>
          rw [hnum] at hk
          simp only [ANP, go_sem, Nat.reduceAdd]
          refine D7 g4 rfl rfl (by omega) (by show 2 + 1 <= 5; omega) fun H5 g5 s5 => ?_
          have e : WR (.bool false) = some (.bool true) := rfl
          simp only [go_sem, e, zB]
          have gn5 := (s5 n (by omega)).trans gn
          rw [VP (m := 5) gn5 (by omega) rfl rfl, BL (m := 5) (T.Ap ..) (by omega) rfl]
          simp only [go_sem]
          obtain ⟨l1, c1, y1, y2, y3, y4, hg⟩ := h4
          refine hk _ _ _ ⟨by omega, fun id hid hb => ?_⟩ ⟨l1, c1, y1, y2, y3, y4, ?_⟩ rfl fun h => by cases h
          · rw [T.Am _ _ (by omega), s5 _ (by omega)]; exact b4.same id hid hb
          · rw [T.Am _ _ (by omega), s5 _ (by omega)]; exact hg
        | some nu =>
          rw [hnum] at hk
          simp only [ANP, go_sem, Nat.reduceAdd]
          refine D7 g4 rfl rfl (by omega) (by show 2 + 1 <= 5; omega) fun H5 g5 s5 => ?_
          have e : WR (.bool true) = some (.bool false) := rfl
          simp only [go_sem, e]
          have gn5 := (s5 n (by omega)).trans gn
          have g5 : T.get H5 (n + 1) = some (one (QK ⟨4, (s.drop a).takeWhile digit, nu⟩ line col)) := g5
          have b5 : Kx lb H n H5 (n + 1 + 1 + 1) := ⟨b4.le, fun id hid hb => (s5 id (by omega)).trans (b4.same id hid hb)⟩
          obtain ⟨l1, c1, y1, y2, y3, y4, hg⟩ := h4
          refine AAz b5 gn5 g5 (by omega) (by omega) hq (by omega) (by omega) (by omega) ⟨l1, c1, y1, y2, y3, y4, (s5 _ (by omega)).trans hg⟩ (by show a + (List.takeWhile digit (s.drop a)).length <= _; omega) hs x1 x2 ?_
          have e : nY ⟨4, (s.drop a).takeWhile digit, nu⟩ = (0, ⟨4, (s.drop a).takeWhile digit, nu⟩) := by simp [nY]
          exact e ▸ hk
      | false =>
        rw [k3] at hk
        simp only [go_sem]
        have e80 : BH 22 (.gptr 0 0) G H1 = some (.agg (EJ.map sB)) := by
          show Ll (G 0 0 22) (fun L => some (.agg L)) = _
          rw [hG]; rfl
        simp only [go_sem, e80]
        obtain ⟨R, hR⟩ : ∃ R, EJ.find? (fun m => pre m (s.drop a)) = R := ⟨_, rfl⟩
        rw [hR] at hk
        refine SA (N := 22) (J := fun j q => q = (.ptr lb 0, .ptr n 0, .ptr (n + 1) 0, .agg (EJ.map sB), .int .i64 (.ofNat j) 0, H1, n + 1 + 1) /\ (EJ.drop j).find? (fun m => pre m (s.drop a)) = R) ?_ ?_ ⟨rfl, hR⟩
        · rintro I j q hlt ⟨rfl, hR⟩ ih
          show G9 lfp G (Runs F G) k I (.ptr lb 0) (.ptr n 0) (.ptr (n + 1) 0) (.agg (EJ.map sB)) (.int .i64 (.ofNat j) 0) H1 (n + 1 + 1)
          delta G9
          have hj : j < EJ.length := hlt
          rw [List.drop_eq_getElem_cons hj, List.find?_cons] at hR
          have hlen : (EJ[j]).length <= 2 := by
            have : ∀ m ∈ EJ, m.length <= 2 := by decide
            exact this _ (List.getElem_mem hj)
          have hix : AGf 22 (.agg (EJ.map sB)) (.int .i64 (.ofNat j) 0) = some (sB EJ[j]) := by
            show Aq (Nat.blt j 22) (nth (EJ.map sB) j) = _
            rw [show Nat.blt j 22 = true by rw [Nat.blt_eq]; exact hlt, ZJ]
            show (EJ.map sB)[j]? = _
            simp [hj]
          generalize EJ[j] = m at hR hlen hix
          simp only [go_sem, P7, hlt, decide_true, hix, Nat.reduceAdd, e0, e1, ACH ha]
          refine pO ?_
          cases hp : pre m (s.drop a) with
          | true =>
            rw [hp] at hR
            subst hR
            simp only [go_sem, Nat.reduceAdd]
            refine fC g2 fun H2 g s2 => ?_
            refine AJK g fun H3 g s3 => ?_
            have hle : m.length <= s.length - a := by
              unfold pre at hp
              rw [List.length_drop] at hp
              simp only [Bool.and_eq_true, decide_eq_true_eq] at hp
              exact hp.1
            refine fin (only (only b0 s2) s3) g (by show a + m.length <= _; omega) ?_
            have e : nY ⟨5, m, 0⟩ = (0, ⟨5, m, 0⟩) := by
              have : ¬ 40 < m.length := by omega
              simp [nY, this]
            exact e ▸ hk
          | false =>
            rw [hp] at hR
            simp only [go_sem, La (show j + 1 < 9223372036854775808 by omega)]
            exact ih _ ⟨rfl, hR⟩
        · rintro I q ⟨rfl, hR⟩
          show G9 lfp G (Runs F G) k I (.ptr lb 0) (.ptr n 0) (.ptr (n + 1) 0) (.agg (EJ.map sB)) (.int .i64 (.ofNat 22) 0) H1 (n + 1 + 1)
          delta G9
          rw [show EJ.drop 22 = [] from rfl] at hR
          subst hR
          simp only [go_sem, P7, Nat.lt_irrefl, decide_false]
          exact fin b0 g2 (by show a + 0 <= _; omega) hk
end
end Go.PQ
namespace Go.PQ
open Go.Eng
set_option maxRecDepth 100000
def ADg (c : LV) (t : Tok) : Prop := ∃ line col, 1 <= line /\ 1 <= col /\ c = QK t line col
theorem uU (c : UInt8) (l : Bs) : Gg (c :: l) = (bif great c then Xb ⟨2, (c :: l).takeWhile inner, 0⟩ else
    bif small c then Xb ⟨bif decide ((c :: l).takeWhile inner ∈ Pv) then 1 else 3, (c :: l).takeWhile inner, 0⟩ else
    bif digit c then (match YG 0 ((c :: l).takeWhile digit) with | none => (22, FN) | some n => (0, ⟨4, (c :: l).takeWhile digit, n⟩)) else
    match EJ.find? (fun m => pre m (c :: l)) with | none => (20, FN) | some m => (0, ⟨5, m, 0⟩)) := rfl
theorem AF7 : ∀ r : Bs, (Gg r).2.text.length <= r.length
 | [] => Nat.le_refl _
 | c :: l => by
  have h1 := ABH inner (c :: l)
  have h2 := ABH digit (c :: l)
  have hc : ∀ t : Tok, t.text.length <= (c :: l).length -> (Xb t).2.text.length <= (c :: l).length := by
   intro t ht; unfold Xb; cases decide (40 < t.text.length)
   ·exact ht
   ·exact Nat.zero_le _
  rw [uU]
  cases great c
  case true => exact hc ⟨2, _, 0⟩ h1
  cases small c
  case true => exact hc ⟨_, _, 0⟩ h1
  cases digit c
  case true =>
   simp only [cond_true, cond_false]
   cases YG 0 ((c :: l).takeWhile digit) with
   | none => exact Nat.zero_le _
   | some n => exact h2
  simp only [cond_false]
  cases hf : EJ.find? (fun m => pre m (c :: l)) with
  | none => exact Nat.zero_le _
  | some m =>
   have := List.find?_some hf
   simp only [pre, Bool.and_eq_true, decide_eq_true_eq] at this
   exact this.1
theorem AE3 : ∀ r : Bs, (Gg r).1 = 0 -> (Gg r).2.kind ≠ 0 -> 0 < (Gg r).2.text.length
 | [] => fun _ h => absurd rfl h
 | c :: l => by
  have hc : ∀ t : Tok, 0 < t.text.length -> (Xb t).1 = 0 -> 0 < (Xb t).2.text.length := by
   intro t ht; unfold Xb; cases decide (40 < t.text.length)
   ·exact fun _ => ht
   ·intro h; cases h
  have tw : ∀ g : UInt8 -> Bool, g c = true -> 0 < ((c :: l).takeWhile g).length := fun g h => by rw [List.takeWhile_cons, h]; simp
  rw [uU]
  cases h1 : great c
  case true => exact fun h _ => hc ⟨2, _, 0⟩ (tw inner (by simp [inner, h1])) h
  cases h2 : small c
  case true => exact fun h _ => hc ⟨_, _, 0⟩ (tw inner (by simp [inner, h2])) h
  cases h3 : digit c
  case true =>
   simp only [cond_true, cond_false]
   cases YG 0 ((c :: l).takeWhile digit) with
   | none => intro h; cases h
   | some n => exact fun _ _ => tw digit h3
  simp only [cond_false]
  cases hf : EJ.find? (fun m => pre m (c :: l)) with
  | none => intro h; cases h
  | some m =>
   intro _ _
   have h4 : ∀ m ∈ EJ, 0 < m.length := by decide
   exact h4 m (List.mem_of_find?_eq_some hf)
def APF (G : AP) (k : KV) (H : Heap) (n : Nat) (r : Nat × List Tok) : Prop := ∀ (H' : Heap) (n' : Nat) (v : V) (c : LV), Kp H n H' n' ->
 (r.1 = 0 -> (∃ cs id, v = .Nr id 0 cs.length 5 /\ n <= id /\ id < n' /\ El G H' v 5 cs /\ Pw ADg cs r.2) /\ c = [.int .i64 (.ofNat 0) 0, .int .i64 (.ofNat 0) 0, .int .i64 (.ofNat 0) 0]) ->
 (r.1 ≠ 0 -> ∃ line col, 1 <= line /\ 1 <= col /\ c = [.int .i64 (.ofNat r.1) 0, .int .i64 (.ofNat line) 0, .int .i64 (.ofNat col) 0]) -> k (.Gh [v, .agg c]) H' n'
theorem ACz {z0 z1 z2 a b : V} (e : Int) : BR [z0, z1, z2] [(0, 1, .c (.int .i64 e 0)), (1, 2, .c (.agg [a, b]))] = some (.agg [.int .i64 e 0, a, b]) := rfl
theorem ALu {z0 z1 z2 : V} : BR [z0, z1, z2] [] = some (.agg [z0, z1, z2]) := rfl
theorem AL9 {z0 z1 z2 z3 a b : V} (s : Bs) : BR [z0, z1, z2, z3] [(0, 1, .c (sB s)), (2, 2, .c (.agg [a, b]))] = some (.agg [sB s, z1, a, b]) := rfl
section
variable {G : AP} {H : Heap} {n : Nat} {s : Bs} {k : KV}
theorem AQr (hG : Qn G) (hk : APF G k H n (wL s)) : Runs F G xB [sB s] H n k := by
  refine BZ (s := Eu (Xu lfp G)) gX (by obtain ⟨h, o⟩ := rU BX G; rw [gX] at h; cases h; exact o) ?_
  show Xu lfp G (Runs F G) (sB s) H n k
  delta Xu
  unfold wL at hk
  simp only [go_sem, Nat.reduceAdd, AF1, AL9, fV, fZ]
  have f1 : Kp H n (T.set (T.set H n (one [.int .i64 (.ofNat 0) 0, .int .i64 (.ofNat 0) 0, .int .i64 (.ofNat 0) 0])) (n + 1) (one [sB s, .int .i64 (.ofNat 0) 0, .int .i64 (.ofNat 1) 0, .int .i64 (.ofNat 1) 0])) (n + 1 + 1) :=
    ((Kp.refl H n).new (m := n + 1) _ (Nat.le_refl _) (by omega)).new _ (by omega) (by omega)
  have g1 := (T.Am (T.set H n (one [V.int .i64 (.ofNat 0) 0, .int .i64 (.ofNat 0) 0, .int .i64 (.ofNat 0) 0])) (one [sB s, .int .i64 (.ofNat 0) 0, .int .i64 (.ofNat 1) 0, .int .i64 (.ofNat 1) 0]) (show n + 1 ≠ n by omega)).trans (T.Ap ..)
  have g2 := T.Ap (T.set H n (one [V.int .i64 (.ofNat 0) 0, .int .i64 (.ofNat 0) 0, .int .i64 (.ofNat 0) 0])) (n + 1) (one [sB s, .int .i64 (.ofNat 0) 0, .int .i64 (.ofNat 1) 0, .int .i64 (.ofNat 1) 0])
  generalize T.set (T.set H n (one [V.int .i64 (.ofNat 0) 0, .int .i64 (.ofNat 0) 0, .int .i64 (.ofNat 0) 0])) (n + 1) (one [sB s, .int .i64 (.ofNat 0) 0, .int .i64 (.ofNat 1) 0, .int .i64 (.ofNat 1) 0]) = H1 at f1 g1 g2 ⊢
  cases hs : decide (65536 < s.length) with
  | true =>
    rw [hs] at hk
    simp only [go_sem, Nat.reduceAdd]
    rw [Ko (m := 2) (o := 2) g2 (by omega) (by show 2 + 2 <= 4; omega)]
    simp only [go_sem, List.drop_succ_cons, List.drop_zero, List.take_succ_cons, List.take_zero, ACz]
    rw [VP (m := 3) g1 (by omega) rfl rfl, BL (m := 3) (T.Ap ..) (by omega) rfl]
    simp only [go_sem]
    exact hk _ _ _ _ (f1.set _ (Nat.le_refl _)) (fun h => by cases h) fun _ => ⟨1, 1, by omega, by omega, rfl⟩
  | false =>
    rw [hs, cond_false] at hk
    have hs : s.length <= 65536 := by simpa using hs
    simp only [go_sem]
    refine LC (J := fun m q => ∃ H' n' a v cs xs f, m = s.length - a /\ q = (.ptr n 0, .ptr (n + 1) 0, v, H', n') /\ Kp H n H' n' /\ n + 2 <= n' /\ T.get H' n = some (one [.int .i64 (.ofNat 0) 0, .int .i64 (.ofNat 0) 0, .int .i64 (.ofNat 0) 0]) /\ zU H' (n + 1) s a /\
      a <= s.length /\ Own G H' (n + 2) n' 5 v cs /\ Pw ADg cs xs /\ cs.length <= a /\ s.length - a < f /\ APF G k H n ((lM f (s.drop a)).1, xs ++ (lM f (s.drop a)).2)) ?_ (m := s.length)
      ⟨H1, n + 1 + 1, 0, .Ae, [], [], s.length + 1, rfl, rfl, f1, by omega, g1, ⟨1, 1, by omega, by omega, by omega, by omega, g2⟩, by omega, dO, .nil, by simp, by omega, hk⟩
    rintro I m q ⟨H2, n2, a, v, cs, xs, f, rfl, rfl, f2, hn2, g0, hl, ha, ho, hx, hcs, hf, hk⟩ ih
    show XI lfp G (Runs F G) k I (.ptr n 0) (.ptr (n + 1) 0) v H2 n2
    delta XI
    refine ANw hl ha hs fun H3 a3 f3 hl3 ha3 hd3 => ?_
    refine AL7 hG hl3 ha3 hs (by omega) ?_
    obtain ⟨f, rfl⟩ : ∃ g, f = g + 1 := ⟨f - 1, by omega⟩
    rw [hd3]
    have hlexF : lM (f + 1) (s.drop a) = bif decide ((Gg (Bz false (s.drop a))).1 = 0) then
        bif decide ((Gg (Bz false (s.drop a))).2.kind = 0) then (0, [(Gg (Bz false (s.drop a))).2])
        else ((lM f ((Bz false (s.drop a)).drop (Gg (Bz false (s.drop a))).2.text.length)).1, (Gg (Bz false (s.drop a))).2 :: (lM f ((Bz false (s.drop a)).drop (Gg (Bz false (s.drop a))).2.text.length)).2)
      else ((Gg (Bz false (s.drop a))).1, []) := rfl
    rw [hlexF, <- hd3] at hk
    have hle := AF7 (s.drop a3)
    have hpos := AE3 (s.drop a3)
    rw [List.length_drop] at hle
    rw [<- hd3]
    intro H4 n4 c f4 hl4 hcl ht
    generalize Gg (s.drop a3) = R at hk hle hpos hl4 ht
    obtain ⟨e, t⟩ := R
    simp only [go_sem, Nat.reduceAdd]
    obtain ⟨c0, c1, c2, c3, c4, rfl⟩ : ∃ c0 c1 c2 c3 c4, c = [c0, c1, c2, c3, c4] := by
      match c, hcl with
      | [c0, c1, c2, c3, c4], _ => exact ⟨c0, c1, c2, c3, c4, rfl⟩
    have f24 := f3.trans f4
    have hn4 := f24.le
    have g04 : T.get H4 n = _ := f24.get g0 (by omega) (by omega)
    have ho4 := ho.kx f24 (by omega)
    have f4' : Kp H n H4 n4 := ⟨by have := f2.le; omega, fun id hid => (f24.same id (by omega) (by omega)).trans (f2.same id hid)⟩
    simp only [go_sem, Nat.reduceAdd]
    rw [T.set_set]
    have f5 : Kp H4 n4 (T.set H4 n4 (one [c0, c1, c2, c3, c4])) (n4 + 1) := (Kp.refl _ _).new _ (Nat.le_refl _) (by omega)
    have g5 := T.Ap H4 n4 (one [c0, c1, c2, c3, c4])
    generalize T.set H4 n4 (one [c0, c1, c2, c3, c4]) = H5 at f5 g5 ⊢
    have g05 := f5.get g04 (by omega)
    have f5' := f4'.trans f5
    have hl5 := hl4.kp (n := n4) (by omega) f5
    simp only [eu]
    cases he : decide (e = 0) with
    | false =>
      have he' : e ≠ 0 := by simpa using he
      rw [he, cond_false] at hk
      obtain ⟨line, col, y1, y2, y3, y4, hg⟩ := hl5
      simp only [Bool.not_false, go_sem, Nat.reduceAdd]
      rw [Ko (m := 2) (o := 2) hg (by omega) (by show 2 + 2 <= 4; omega)]
      simp only [go_sem, List.drop_succ_cons, List.drop_zero, List.take_succ_cons, List.take_zero, ACz]
      rw [VP (m := 3) g05 (by omega) rfl rfl, BL (m := 3) (T.Ap ..) (by omega) rfl]
      simp only [go_sem]
      exact hk _ _ _ _ (f5'.set _ (Nat.le_refl _)) (fun h => absurd h he') fun _ => ⟨line, col, y1, y2, rfl⟩
    | true =>
      have he' : e = 0 := by simpa using he
      subst he'
      rw [he, cond_true] at hk
      obtain ⟨line, col, y1, y2, hc⟩ := ht rfl
      rw [hc] at g5 ⊢
      simp only [Bool.not_true, go_sem]
      refine Lh (G := G) (vs := [.agg (QK t line col)]) rfl (by omega) (fun v hv => by simp at hv; subst hv; exact ⟨rfl, rfl⟩) fun H6 f6 _ hel => ?_
      have ho6 := (ho4.kp f5).kp f6
      refine ho6.gr.app (by omega) ho6.lo hel.2 (by show (cs.length + 1) * 48 <= _; omega) ?_ (fun h => by cases h)
      intro v' H7 hgr hsame hlo
      have hgr : Gr G H7 (n + 2) 5 v' (cs ++ [QK t line col]) := hgr
      have f7 : Kp H n H7 (n4 + 1 + 1 + 1) := ⟨by have := f5'.le; omega, fun id hid => (hsame id (by have := f5'.le; omega) (fun h => by have := ho6.ge h; omega)).trans ((f6.same id (by have := f5'.le; omega)).trans (f5'.same id hid))⟩
      have g7 : ∀ {id : Nat} {b : OL}, id < n + 2 -> T.get H5 id = some b -> T.get H7 id = some b := fun hid h => (hsame _ (by omega) (fun h => by have := ho6.ge h; omega)).trans ((f6.same _ (by omega)).trans h)
      have g57 : T.get H7 n4 = some (one (QK t line col)) := (hsame n4 (by omega) (fun h => by have := ho4.lo _ h; omega)).trans ((f6.same n4 (by omega)).trans g5)
      have q0 : AZ (.ptr n4 0) G H7 = some (.int .i64 (.ofNat t.kind) 0) := Ag g57 rfl
      have hel7 : El G H7 v' 5 (cs ++ [QK t line col]) := hgr.el (by omega)
      have hpw : Pw ADg (cs ++ [QK t line col]) (xs ++ [t]) := hx.app (.cons ⟨line, col, y1, y2, rfl⟩ .nil)
      simp only [go_sem, Nat.reduceAdd, q0, RH]
      cases hkd : decide (t.kind = 0) with
      | true =>
        rw [hkd, cond_true] at hk
        simp only [go_sem, ALu]
        rw [VP (m := 3) (g7 (by omega) g05) (by omega) rfl rfl, BL (m := 3) (T.Ap ..) (by omega) rfl]
        simp only [go_sem]
        have f8 := f7.set (one [V.int .i64 (.ofNat 0) 0, .int .i64 (.ofNat 0) 0, .int .i64 (.ofNat 0) 0]) (Nat.le_refl n)
        refine hk _ _ _ _ f8 (fun _ => ⟨?_, rfl⟩) (fun h => absurd rfl h)
        have hel8 : El G (T.set H7 n (one [V.int .i64 (.ofNat 0) 0, .int .i64 (.ofNat 0) 0, .int .i64 (.ofNat 0) 0])) v' 5 (cs ++ [QK t line col]) := hel7.same fun id hid => T.Am _ _ (by have := (hgr.lo hid).1; omega)
        generalize hcs' : cs ++ [QK t line col] = cs' at hgr hel7 hel8 hpw
        cases hgr with
        | nil => simp at hcs'
        | Nr hg hc ht hid =>
          rename_i id c tt
          exact ⟨_, id, rfl, by omega, by have := hlo id rfl; omega, hel8, hpw⟩
      | false =>
        rw [hkd, cond_false] at hk
        have hkd' : t.kind ≠ 0 := by simpa using hkd
        have hp0 : 0 < t.text.length := hpos rfl hkd'
        have hle : t.text.length <= s.length - a3 := hle
        have hlen : (s.drop a3).length = (Bz false (s.drop a)).length := by rw [hd3]
        have hsk := cu false (s.drop a)
        rw [List.length_drop] at hlen hsk
        simp only [go_sem]
        have hl7 : zU H7 (n + 1) s (a3 + t.text.length) := by
          obtain ⟨line, col, y1, y2, y3, y4, hg⟩ := hl5
          exact ⟨line, col, y1, y2, y3, y4, g7 (by omega) hg⟩
        refine ih (s.length - (a3 + t.text.length)) _ (by omega) ⟨H7, n4 + 1 + 1 + 1, a3 + t.text.length, v', cs ++ [QK t line col], xs ++ [t], f, rfl, rfl, f7, by omega, g7 (by omega) g05, hl7, by omega, ⟨hgr, hlo⟩, hpw, ?_, by omega, ?_⟩
        · rw [List.length_append]; show cs.length + 1 <= _; omega
        · rw [List.append_assoc, <- List.drop_drop]; exact hk
end
end Go.PQ
namespace Go.PQ
open Go.Eng
structure S where
 t : Tok
 r : List Tok
 deep : Nat
 e : Nat
abbrev PM (α : Type) := S -> Option (α × S)
def S.ok (s : S) : Bool := decide (s.e = 0)
def GX (e : Nat) (s : S) : S := bif s.ok then { s with e := e } else s
def PK (w : Bs) (s : S) : Bool := s.ok && ((decide (s.t.kind = 1) || decide (s.t.kind = 5)) && decide (s.t.text = w))
def O5 (ws : List Bs) (s : S) : Bool := ws.any fun w => PK w s
def LZ (s : S) : Option S := bif decide (s.t.kind = 0) then some s else match s.r with | [] => none | t :: r => some { s with t := t, r := r }
def Cm (w : Bs) : PM Bool := fun s => bif PK w s then (LZ s).bind fun s' => some (true, s') else some (false, s)
def DI : List Bs -> S -> Option S
 | [], s => some s
 | w :: ws, s => (Cm w s).bind fun p => DI ws (bif p.1 then p.2 else GX 21 p.2)
def IB (k : Nat) : PM Bs := fun s => bif s.ok && decide (s.t.kind = k) then (LZ s).bind fun s' => some (s.t.text, s') else some ([], GX 21 s)
def Rl (s : S) : Option S := bif decide (s.deep < 1000000) then some (bif decide (100 < s.deep + 1) then GX 3 { s with deep := s.deep + 1 } else { s with deep := s.deep + 1 }) else none
def aK (s : S) : Option S := match s.deep with | 0 => none | d + 1 => bif decide (d < 1000000) then some { s with deep := d } else none
def Ia (n : Nat) (s : S) : S := bif decide (200 < n) then GX 4 s else s
structure Ty where
 nm : Bs
 arr : Bool
def ABK : PM Ty := fun s => (Cm I4 s).bind fun p => bif p.1 then some (⟨I4, false⟩, p.2) else
 (Cm jF p.2).bind fun p => bif p.1 then some (⟨jF, false⟩, p.2) else (IB 2 p.2).bind fun p => some (⟨p.1, false⟩, p.2)
def lG : PM Ty := fun s => (ABK s).bind fun p => (Cm kL p.2).bind fun q => bif q.1 then (DI [ku] q.2).bind fun s => some (⟨p.1.nm, true⟩, s) else some (p.1, q.2)
inductive Ex where
 | mk (kind num : Nat) (nm : Bs) (ty : Bs) (arr : Bool) (kids : List Ex)
def Ex.kind : Ex -> Nat | .mk k _ _ _ _ _ => k
def dP (k : Nat) (w : Bs) (nx : PM Ex) : Nat -> Ex -> PM Ex
 | 0, _, _ => none
 | f + 1, e, s => bif O5 [w] s then (LZ s).bind fun s1 => (nx s1).bind fun p => dP k w nx f (.mk k 0 [] [] false [e, p.1]) p.2 else some (e, s)
def either (k : Nat) (w : Bs) (nx : PM Ex) (f : Nat) : PM Ex := fun s => (nx s).bind fun p => dP k w nx f p.1 p.2
def l9 (ws : List Bs) (nx : PM Ex) : Nat -> Ex -> PM Ex
 | 0, _, _ => none
 | f + 1, e, s => bif O5 ws s then (LZ s).bind fun s1 => (nx s1).bind fun p => l9 ws nx f (.mk 16 0 s.t.text [] false [e, p.1]) p.2 else some (e, s)
def signs (ws : List Bs) (nx : PM Ex) (f : Nat) : PM Ex := fun s => (nx s).bind fun p => l9 ws nx f p.1 p.2
def sumP (un : PM Ex) (f : Nat) : PM Ex := signs [Y1, CG] (signs [WH, QZ, jl] un f) f
def compared (un : PM Ex) (f : Nat) : PM Ex := fun s => (sumP un f s).bind fun p =>
 bif O5 [XT, kG, Ua, jk] p.2 then (LZ p.2).bind fun s1 => (sumP un f s1).bind fun q => some (.mk 16 0 p.2.t.text [] false [p.1, q.1], q.2) else some (p.1, p.2)
def asL : Nat -> Ex -> PM Ex
 | 0, _, _ => none
 | f + 1, e, s => bif O5 [ABT, qK] s then (LZ s).bind fun s1 => (IB 2 s1).bind fun p => asL f (.mk (bif decide (s.t.text = qK) then 20 else 19) 0 [] p.1 false [e]) p.2 else some (e, s)
def AB5 (rec : PM Ex) : Nat -> List Ex -> PM (List Ex)
  | 0, _, _ => none
  | f + 1, out, s => bif s.ok then (Cm KG s).bind fun p => bif p.1 then some (out, p.2) else
      (bif decide (0 < out.length) then DI [OZ] p.2 else some p.2).bind fun s1 => (rec s1).bind fun q => AB5 rec f (out ++ [q.1]) (Ia (out.length + 1) q.2)
    else some (out, s)
def yM (rec : PM Ex) (f : Nat) : PM (List Ex) := fun s => (DI [JZ] s).bind fun s1 => AB5 rec f [] s1
def kW (rec : PM Ex) (f : Nat) (e : Ex) : PM Ex := fun s => (Cm kH s).bind fun p => bif p.1 then some (.mk 13 0 [] [] false [e], p.2) else
 (IB 3 p.2).bind fun q => bif O5 [JZ] q.2 then (yM rec f q.2).bind fun a => some (.mk 8 0 q.1 [] false (e :: a.1), a.2) else some (.mk 7 0 q.1 [] false [e], q.2)
def uz (t : Ty) : Bool := !t.arr && (match t.nm with | [] => false | c :: _ => great c)
def YB (rec : PM Ex) (f : Nat) : PM Ex := fun s =>
 bif !s.ok then some (.mk 0 0 [] [] false [], s) else
 bif decide (s.t.kind = 4) then (LZ s).bind fun s1 => some (.mk 1 s.t.num [] [] false [], s1) else
 bif decide (s.t.kind = 3) then (LZ s).bind fun s1 => some (.mk 6 0 s.t.text [] false [], s1) else
 bif decide (s.t.kind = 2) then (LZ s).bind fun s1 => (DI [ZR] s1).bind fun s2 => (IB 3 s2).bind fun q => (yM rec f q.2).bind fun a => some (.mk 9 0 q.1 s.t.text false a.1, a.2) else
 (Cm Vs s).bind fun p => bif p.1 then some (.mk 2 0 [] [] false [], p.2) else
 (Cm lK p.2).bind fun p => bif p.1 then some (.mk 3 0 [] [] false [], p.2) else
 (Cm vC p.2).bind fun p => bif p.1 then some (.mk 4 0 [] [] false [], p.2) else
 (Cm rJ p.2).bind fun p => bif p.1 then some (.mk 5 0 [] [] false [], p.2) else
 (Cm AEJ p.2).bind fun p => bif p.1 then
  ((ABK p.2).bind fun b => (Cm kL b.2).bind fun q => bif q.1 then (rec q.2).bind fun x => (DI [ku] x.2).bind fun s1 => some (.mk 11 0 [] b.1.nm b.1.arr [x.1], s1)
   else some (.mk 10 0 [] b.1.nm b.1.arr [], bif uz b.1 then q.2 else GX 21 q.2)) else
 (Cm JZ p.2).bind fun p => bif p.1 then (rec p.2).bind fun x => (DI [KG] x.2).bind fun s1 => some (x.1, s1) else
 some (.mk 0 0 [] [] false [], GX 21 p.2)
def Yd (rec : PM Ex) : Nat -> Ex -> PM Ex
 | 0, _, _ => none
 | f + 1, e, s => (Cm kL s).bind fun p => bif p.1 then (rec p.2).bind fun q => (DI [ku] q.2).bind fun s1 => Yd rec f (.mk 12 0 [] [] false [e, q.1]) s1 else
  (Cm ZR p.2).bind fun p => bif p.1 then (kW rec f e p.2).bind fun q => Yd rec f q.1 q.2 else some (e, p.2)
def bf (rec : PM Ex) (f : Nat) : PM Ex := fun s => (YB rec f s).bind fun p => Yd rec f p.1 p.2
def unary (rec : PM Ex) : Nat -> PM Ex
 | 0, _ => none
 | f + 1, s => bif O5 [CG] s then (Rl s).bind fun s1 => (LZ s1).bind fun s2 => (unary rec f s2).bind fun p => (aK p.2).bind fun s' => some (.mk 14 0 [] [] false [p.1], s') else
  bif O5 [RP] s then (Rl s).bind fun s1 => (LZ s1).bind fun s2 => (unary rec f s2).bind fun p => (aK p.2).bind fun s' => some (.mk 15 0 [] [] false [p.1], s') else
  (bf rec f s).bind fun p => asL f p.1 p.2
def AA1 (rec : PM Ex) (f : Nat) : PM Ex := fun s => (Rl s).bind fun s1 => (either 18 qN (either 17 Wp (compared (unary rec f) f) f) f s1).bind fun p => (aK p.2).bind fun s' => some (p.1, s')
def expr : Nat -> PM Ex
 | 0, _ => none
 | f + 1, s => AA1 (expr f) f s
inductive St where
 | mk (does : Nat) (nm : Bs) (ty : Ty) (es : List Ex) (th el : List St)
def Ej (st : PM St) : Nat -> List St -> PM (List St)
 | 0, _, _ => none
 | f + 1, out, s => bif s.ok then (Cm m_rc s).bind fun p => bif p.1 then some (out, p.2) else (st p.2).bind fun q => bif decide (out.length < 1000000) then Ej st f (out ++ [q.1]) q.2 else none
  else some (out, s)
def O3 (st : PM St) (f : Nat) : PM (List St) := fun s => (Rl s).bind fun s1 => (DI [Ji] s1).bind fun s2 => (Ej st f [] s2).bind fun p => (aK p.2).bind fun s' => some (p.1, s')
def Xr : Ty := ⟨[], false⟩
def lg (f : Nat) : PM St := fun s => (expr f s).bind fun p => bif O5 [Tn] p.2 then
    (DI [Tn] (bif decide (p.1.kind = 6) || (decide (p.1.kind = 7) || decide (p.1.kind = 12)) then p.2 else GX 21 p.2)).bind fun s1 => (expr f s1).bind fun q => some (.mk 2 [] Xr [p.1, q.1] [] [], q.2)
  else some (.mk 3 [] Xr [p.1] [] [], bif decide (p.1.kind = 8) || decide (p.1.kind = 9) then p.2 else GX 21 p.2)
def endP (st : St) (s : S) : Option (St × S) := (DI [Bc] s).bind fun s1 => some (st, s1)
def yc (st ch : PM St) (f : Nat) : PM St := fun s => (Rl s).bind fun s1 => (DI [nT] s1).bind fun s2 => (expr f s2).bind fun c => (O3 st f c.2).bind fun t =>
 (Cm zG t.2).bind fun p => (bif p.1 then (bif O5 [nT] p.2 then (ch p.2).bind fun x => some ([x.1], x.2) else O3 st f p.2) else some ([], p.2)).bind fun x =>
 (aK x.2).bind fun s' => some (.mk 4 [] Xr [c.1] t.1 x.1, s')
def pI (st ch : PM St) (f : Nat) : PM St := fun s => (Cm ABF s).bind fun p => bif p.1 then
    (lG p.2).bind fun t => (IB 3 t.2).bind fun n => (DI [Tn] n.2).bind fun s1 => (expr f s1).bind fun x => endP (.mk 1 n.1 t.1 [x.1] [] []) x.2 else
  bif O5 [nT] p.2 then ch p.2 else
  (Cm Qd p.2).bind fun p => bif p.1 then (expr f p.2).bind fun c => (O3 st f c.2).bind fun t => some (.mk 5 [] Xr [c.1] t.1 [], t.2) else
  (Cm Ce p.2).bind fun p => bif p.1 then (expr f p.2).bind fun x => endP (.mk 6 [] Xr [x.1] [] []) x.2 else
  (Cm Wx p.2).bind fun p => bif p.1 then (expr f p.2).bind fun x => endP (.mk 7 [] Xr [x.1] [] []) x.2 else
  (lg f p.2).bind fun x => endP x.1 x.2
def sc : Nat -> Bool -> PM St
 | 0, _, _ => none
 | f + 1, b, s => bif b then yc (sc f false) (sc f true) f s else pI (sc f false) (sc f true) f s
structure Va where
 nm : Bs
 ty : Ty
structure Me where
 nm : Bs
 st : Bool
 ps : List Va
 ret : Ty
 body : List St
structure Cl where
 nm : Bs
 sup : Bs
 fs : List Va
 ms : List Me
def dZ : Nat -> List Va -> PM (List Va)
  | 0, _, _ => none
  | f + 1, out, s => bif s.ok then (Cm KG s).bind fun p => bif p.1 then some (out, p.2) else
      (bif decide (0 < out.length) then DI [OZ] p.2 else some p.2).bind fun s1 => (lG s1).bind fun t => (IB 3 t.2).bind fun n => dZ f (out ++ [⟨n.1, t.1⟩]) (Ia (out.length + 1) n.2)
    else some (out, s)
def XG (f : Nat) : PM Me := fun s => (Cm O7 s).bind fun p => (DI [Ep] p.2).bind fun s1 => (lG s1).bind fun t => (IB 3 t.2).bind fun n => (DI [JZ] n.2).bind fun s2 =>
 (dZ f [] s2).bind fun ps => (O3 (sc f false) f ps.2).bind fun b => some (⟨n.1, p.1, ps.1, t.1, b.1⟩, b.2)
def F5 (f : Nat) : Nat -> List Va -> List Me -> PM (List Va × List Me)
  | 0, _, _, _ => none
  | g + 1, fs, ms, s => bif s.ok then (Cm m_rc s).bind fun p => bif p.1 then some ((fs, ms), p.2) else
      (Cm SY p.2).bind fun p => bif p.1 then (lG p.2).bind fun t => (IB 3 t.2).bind fun n => (DI [Bc] (Ia (fs.length + 1) n.2)).bind fun s1 => F5 f g (fs ++ [⟨n.1, t.1⟩]) ms s1 else
      bif O5 [O7, Ep] p.2 then (XG f p.2).bind fun m => F5 f g fs (ms ++ [m.1]) (Ia (ms.length + 1) m.2) else
      F5 f g fs ms (GX 21 p.2)
    else some ((fs, ms), s)
def AC8 (f : Nat) : PM Cl := fun s => (DI [Nk] s).bind fun s1 => (IB 2 s1).bind fun n => (Cm eP n.2).bind fun p => (bif p.1 then IB 2 p.2 else some ([], p.2)).bind fun u => (DI [Ji] u.2).bind fun s2 =>
 (F5 f f [] [] s2).bind fun x => some (⟨n.1, u.1, x.1.1, x.1.2⟩, bif x.2.ok && !decide (x.2.t.kind = 0) then GX 21 x.2 else x.2)
def Uh (f : Nat) : List Tok -> Option (Cl × Nat)
 | [] => none
 | t :: r => (AC8 f ⟨t, r, 0, 0⟩).bind fun p => some (p.1, p.2.e)
end Go.PQ
namespace Go.PQ
open Go.Eng
set_option maxRecDepth 100000
theorem ABm {e : Option V} {P : V -> Prop} {b : Bool} (h : P (.Gh [])) : Bg (.Gh []) b e P := h
theorem DV {id o l c z i : Nat} (h : (V.sl id o l c z).UY = some i) : i = id := by cases h; rfl
theorem gK {id o l z i : Nat} (h : (V.Nr id o l z).UY = some i) : i = id := by cases h; rfl
inductive Vm (G : AP) (H : Heap) (pb : Nat) (s : S) : Prop where
 | mk {tid off line col : Nat} {cs : D5} (hg : T.get H pb = some (one [.Nr tid off cs.length 5, .int .i64 (.ofNat s.deep) 0, .int .i64 (.ofNat s.e) 0, .int .i64 (.ofNat line) 0, .int .i64 (.ofNat col) 0]))
  (he : El G H (.Nr tid off cs.length 5) 5 cs) (ht : Pw ADg cs (s.t :: s.r)) (hp : s.e ≠ 0 -> 1 <= line /\ 1 <= col) (hl : tid < pb)
section
variable {G : AP} {H H' : Heap} {n n' pb : Nat} {s s' : S} {k : KV}
theorem Vm.same (h : Vm G H pb s) (hs : ∀ id, id <= pb -> T.get H' id = T.get H id) : Vm G H' pb s := by
 cases h with
 | mk hg he ht hp hl => exact .mk ((hs _ (Nat.le_refl _)).trans hg) (he.same fun id hid => by cases hid; exact hs _ (by omega)) ht hp hl
theorem Vm.kp (h : Vm G H pb s) (f : Kp H n H' n') (hb : pb < n) : Vm G H' pb s := h.same fun id hid => f.same id (by omega)
theorem Vm.e (h : Vm G H pb s) : AZ (.ptr pb 2) G H = some (.int .i64 (.ofNat s.e) 0) := by cases h with | mk hg => exact Ag hg rfl
theorem Vm.deep (h : Vm G H pb s) : AZ (.ptr pb 1) G H = some (.int .i64 (.ofNat s.deep) 0) := by cases h with | mk hg => exact Ag hg rfl
theorem Vm.tok (h : Vm G H pb s) : ∃ v tid o line col, AZ (.ptr pb 0) G H = some v /\ BI 5 v (.int .i64 (.ofNat 0) 0) = some (.ptr tid o) /\ 1 <= line /\ 1 <= col /\ BH 5 (.ptr tid o) G H = some (.agg (QK s.t line col)) /\
    AZ (.ptr tid o) G H = some (.int .i64 (.ofNat s.t.kind) 0) /\ AZ (.ptr tid (o + 1)) G H = some (sB s.t.text) /\ BH 2 (.ptr tid (o + 3)) G H = some (.agg [.int .i64 (.ofNat line) 0, .int .i64 (.ofNat col) 0]) := by
  cases h with
  | mk hg he ht hp hl =>
    rename_i tid off l1 c1 cs
    cases ht with
    | cons h t =>
      rename_i c cs
      obtain ⟨line, col, x1, x2, rfl⟩ := h
      have h2 := AGt he
      have h3 := (OU _ _ h2).2 0 _ rfl
      rw [Nat.add_zero] at h3
      have sub : ∀ o m, 0 < m -> o + m <= 5 -> ZU H tid (off * 5 + o) m = some (((QK s.t line col).drop o).take m) := fun o m h1 h2 => ADh h3 rfl h1 h2
      refine ⟨_, tid, off * 5, line, col, Ag hg rfl, ?_, x1, x2, ?_, ?_, ?_, ?_⟩
      · show Aq (band (Nat.beq 5 5) (Nat.blt 0 (cs.length + 1))) (CW ((off + 0) * 5) fun o => some (.ptr tid o)) = _
        rw [show Nat.blt 0 (cs.length + 1) = true by rw [Nat.blt_eq]; omega, BM]; rfl
      · rw [wW]; show Ll (ZU H tid (off * 5) 5) _ = _; rw [h3]; rfl
      · rw [pR]; show Ll (ZU H tid (off * 5 + 0) 1) _ = _; rw [sub 0 1 (by omega) (by omega)]; rfl
      · rw [pR]; show Ll (ZU H tid (off * 5 + 1) 1) _ = _; rw [sub 1 1 (by omega) (by omega)]; rfl
      · rw [wW]; show Ll (ZU H tid (off * 5 + 3) 2) _ = _; rw [sub 3 2 (by omega) (by omega)]; rfl
theorem AEx (h : Vm G H pb s) (hk : k (.bool s.ok) H n) : Runs F G DR [.ptr pb 0] H n k := by
 refine BZ (s := Eu (Jo lfp G)) Pj (by obtain ⟨h, o⟩ := Vp BX G; rw [Pj] at h; cases h; exact o) ?_
 show Jo lfp G (Runs F G) (.ptr pb 0) H n k
 delta Jo
 simp only [go_sem, Nat.reduceAdd, h.e, RH]
 exact hk
theorem AH5 {e : Nat} (h : Vm G H pb s) (hk : ∀ H', Kx pb H n H' n -> Vm G H' pb (GX e s) -> k (.Gh []) H' n) : Runs F G Bh [.ptr pb 0, .int .i64 (.ofNat e) 0] H n k := by
 refine BZ (s := QM (Ic lfp G)) Nz (by obtain ⟨h, o⟩ := Tc BX G; rw [Nz] at h; cases h; exact o) ?_
 show Ic lfp G (Runs F G) (.ptr pb 0) (.int .i64 (.ofNat e) 0) H n k
 delta Ic
 unfold GX at hk
 simp only [go_sem, Nat.reduceAdd, h.e, RH]
 rw [show decide (s.e = 0) = s.ok from rfl]
 cases ho : s.ok with
 | false =>
  rw [ho] at hk
  simp only [go_sem]
  exact hk _ (Kx.refl ..) h
 | true =>
  rw [ho] at hk
  obtain ⟨v, tid, o, line, col, e0, e1, x1, x2, e2, e3, e4, e5⟩ := h.tok
  simp only [go_sem, Nat.reduceAdd, Nat.add_zero, e0, e1, e5, ACz]
  cases h with
  | mk hg he ht hp hl =>
   refine D7 hg rfl rfl (by omega) (by show 2 + 3 <= 5; omega) fun H1 g1 s1 => ?_
   exact hk _ ⟨Nat.le_refl _, fun id _ hb => s1 id hb⟩ (.mk g1 (he.same fun id hid => by cases hid; exact s1 _ (by omega)) ht (fun _ => ⟨x1, x2⟩) hl)
def wsC (ws : List Bs) : D5 := ws.map fun w => [sB w]
theorem ADz (ws : List Bs) : (wsC ws).length = ws.length := List.length_map ..
theorem AAi {ws : List Bs} {i : Nat} (h : i < ws.length) : (wsC ws)[i]? = some [sB ws[i]] := by simp [wsC, h]
theorem APS {ws : List Bs} {v : V} (h : Vm G H pb s) (hv : El G H v 1 (wsC ws)) (hw : ws.length <= 1000) (hk : k (.bool (O5 ws s)) H n) : Runs F G CU [.ptr pb 0, v] H n k := by
 refine BZ (s := QM (Jm lfp G)) Pq (by obtain ⟨h, o⟩ := Vj BX G; rw [Pq] at h; cases h; exact o) ?_
 show Jm lfp G (Runs F G) (.ptr pb 0) v H n k
 delta Jm
 unfold O5 at hk
 simp only [go_sem, hv.len, ADz]
 obtain ⟨w, tid, o, line, col, e0, e1, x1, x2, e2, e3, e4, e5⟩ := h.tok
 obtain ⟨R, hR⟩ : ∃ R, (ws.any fun w => PK w s) = R := ⟨_, rfl⟩
 rw [hR] at hk
 refine SA (N := ws.length) (J := fun j q => q = (.ptr pb 0, v, .int .i64 (.ofNat ws.length) 0, .int .i64 (.ofNat j) 0, H, n) /\ ((ws.drop j).any fun w => PK w s) = R) ?_ ?_ ⟨rfl, hR⟩
 ·rintro I j q hlt ⟨rfl, hR⟩ ih
  show G5 lfp G (Runs F G) k I (.ptr pb 0) v (.int .i64 (.ofNat ws.length) 0) (.int .i64 (.ofNat j) 0) H n
  delta G5
  obtain ⟨p, hp, hld⟩ := hv.at (AAi hlt)
  rw [List.drop_eq_getElem_cons hlt, List.any_cons] at hR
  generalize ws[j] = m at hld hR
  simp only [go_sem, P7, hlt, decide_true, hp, bK hld]
  refine AEx h ?_
  have go1 : PK m s = false -> I (.ptr pb 0, v, .int .i64 (.ofNat ws.length) 0, .int .i64 (.ofNat (j + 1)) 0, H, n) := fun h1 => by
   rw [h1, Bool.false_or] at hR
   exact ih _ ⟨rfl, hR⟩
  have ej := La (show j + 1 < 9223372036854775808 by omega)
  cases h1 : s.ok with
  | false =>
   repeat (first | with_reducible refine sU ?_ | with_reducible refine ABm ?_ | with_reducible refine uD ?_)
   simp only [go_sem, ej]
   exact go1 (by simp [PK, h1])
  | true =>
   simp only [go_sem, Nat.reduceAdd, Nat.add_zero, e0, e1, e3, RH]
   cases h2 : decide (s.t.kind = 1) with
   | true =>
    repeat (first | with_reducible refine AMP ?_ | with_reducible refine ABm ?_)
    simp only [go_sem, Nat.reduceAdd, Nat.add_zero, e0, e1, e4, yQ]
    cases h3 : decide (s.t.text = m) with
    | true =>
     rw [show PK m s = true by simp [PK, h1, h2, h3], Bool.true_or] at hR
     subst hR
     simp only [go_sem]; exact hk
    | false => simp only [go_sem, ej]; exact go1 (by simp [PK, h3])
   | false =>
    simp only [go_sem, Nat.reduceAdd, Nat.add_zero, e0, e1, e3, RH]
    cases h4 : decide (s.t.kind = 5) with
    | true =>
     simp only [go_sem, Nat.reduceAdd, Nat.add_zero, e0, e1, e4, yQ]
     cases h3 : decide (s.t.text = m) with
     | true =>
      rw [show PK m s = true by simp [PK, h1, h4, h3], Bool.true_or] at hR
      subst hR
      simp only [go_sem]; exact hk
     | false => simp only [go_sem, ej]; exact go1 (by simp [PK, h3])
    | false =>
     repeat (first | with_reducible refine sU ?_ | with_reducible refine ABm ?_ | with_reducible refine uD ?_ | with_reducible refine AQC ?_)
     simp only [go_sem, ej]; exact go1 (by simp [PK, h2, h4])
 ·rintro I q ⟨rfl, hR⟩
  show G5 lfp G (Runs F G) k I (.ptr pb 0) v (.int .i64 (.ofNat ws.length) 0) (.int .i64 (.ofNat ws.length) 0) H n
  delta G5
  rw [List.drop_eq_nil_of_le (Nat.le_refl _)] at hR
  subst hR
  simp only [go_sem, P7, Nat.lt_irrefl, decide_false]
  delta OD
  exact hk
theorem AHs {l : LV} {i : Nat} {v : V} (h : l[i]? = some v) : AF6 i (.agg l) = some v := by
 show nth l i = _
 rw [ZJ, h]
structure Fr (G : AP) (pb : Nat) (H0 : Heap) (n0 : Nat) (H : Heap) (n : Nat) (s : S) : Prop where
 f : Kx pb H0 n0 H n
 p : Vm G H pb s
 b : pb < n0
theorem Fr.lt {H0 : Heap} {n0 : Nat} (x : Fr G pb H0 n0 H n s) : pb < n := Nat.lt_of_lt_of_le x.b x.f.le
theorem Fr.le {H0 : Heap} {n0 : Nat} (x : Fr G pb H0 n0 H n s) : n0 <= n := x.f.le
theorem Fr.refl (h : Vm G H pb s) (hb : pb < n) : Fr G pb H n H n s := ⟨Kx.refl .., h, hb⟩
theorem Fr.al {H0 : Heap} {n0 : Nat} (x : Fr G pb H0 n0 H n s) (f : Kp H n H' n') : Fr G pb H0 n0 H' n' s := ⟨x.f.trans f.kx, x.p.kp f x.lt, x.b⟩
theorem Fr.st {H0 : Heap} {n0 b : Nat} (x : Fr G pb H0 n0 H n s) (hb : n0 <= b) (e : ∀ j, j ≠ b -> T.get H' j = T.get H j) : Fr G pb H0 n0 H' n s :=
 ⟨⟨x.f.le, fun id hid hp => (e id (by omega)).trans (x.f.same id hid hp)⟩, x.p.same fun id hid => e id (by have := x.b; omega), x.b⟩
theorem Fr.tr {H0 : Heap} {n0 : Nat} (x : Fr G pb H0 n0 H n s) (y : Fr G pb H n H' n' s') : Fr G pb H0 n0 H' n' s' := ⟨x.f.trans y.f, y.p, x.b⟩
theorem Fr.get {b : Nat} {L : LV} (y : Fr G pb H n H' n' s') (g : T.get H b = some (one L)) (h1 : b < n) (h2 : pb < b) : T.get H' b = some (one L) := y.f.get g h1 (by omega)
theorem Bo {m b : Nat} {L0 L : LV} {P : KV} (g : T.get H b = some (one L0)) (h0 : L0.length = m) (h1 : L.length = m) (hm : 0 < m) (h : ∀ H', T.get H' b = some (one L) -> (∀ j, j ≠ b -> T.get H' j = T.get H j) -> P .undef H' n) :
    Bj m (.ptr b 0) (.agg L) H n P := by
  rw [VP g hm h0 h1]; exact h _ (T.Ap ..) fun j hj => T.Am _ _ (Ne.symm hj)
theorem Xd (h : Vm G H pb s) (hb : pb < n) (hm : LZ s = some s') (hk : ∀ H' n' line col, 1 <= line -> 1 <= col -> Fr G pb H n H' n' s' -> k (.agg (QK s.t line col)) H' n') : Runs F G CB [.ptr pb 0] H n k := by
  refine BZ (s := Eu (Ij lfp G)) Ns (by obtain ⟨h, o⟩ := UO BX G; rw [Ns] at h; cases h; exact o) ?_
  show Ij lfp G (Runs F G) (.ptr pb 0) H n k
  delta Ij
  have x := Fr.refl h hb
  refine A8 rfl fun H1 f1 g1 => ?_
  have x := x.al f1
  obtain ⟨v, tid, o, line, col, e0, e1, x1, x2, e2, e3, e4, e5⟩ := x.p.tok
  simp only [go_sem, Nat.reduceAdd, Nat.add_zero, e0, e1, e2]
  refine AOt rfl rfl (by omega) fun H3 f3 g3 => ?_
  have x := x.al f3
  have g1 := f3.get g1 (by omega)
  have q0 : AZ (.ptr (n + 1) 0) G H3 = some (.int .i64 (.ofNat s.t.kind) 0) := Ag g3 rfl
  have fin : ∀ {H4 : Heap}, Fr G pb H n H4 (n + 1 + 1) s' -> T.get H4 n = some (one [.int .i64 (.ofNat 0) 0, .str 0 0, .int .i64 (.ofNat 0) 0, .int .i64 (.ofNat 0) 0, .int .i64 (.ofNat 0) 0]) -> T.get H4 (n + 1) = some (one (QK s.t line col)) ->
      Fa lfp G (Runs F G) k (.ptr n 0) (.ptr (n + 1) 0) H4 (n + 1 + 1) := by
    intro H4 x g1 g3
    delta Fa
    rw [Aj (m := 5) g3 (by omega) rfl, Au]
    refine Bo g1 rfl rfl (by omega) fun H5 g5 s5 => ?_
    rw [BL (m := 5) g5 (by omega) rfl]
    simp only [go_sem]
    exact hk _ _ _ _ x1 x2 (x.st (Nat.le_refl _) s5)
  unfold LZ at hm
  simp only [go_sem, Nat.reduceAdd, q0, eu]
  cases hd : decide (s.t.kind = 0) with
  | true =>
    rw [hd] at hm
    cases hm
    simp only [Bool.not_true, go_sem]
    exact fin x g1 g3
  | false =>
    rw [hd, cond_false] at hm
    simp only [Bool.not_false, go_sem]
    have hp3 := x.p
    cases hp3 with
    | mk hg he ht hp hl =>
      rename_i tid off l1 c1 cs
      cases hr : s.r with
      | nil => rw [hr] at hm; cases hm
      | cons t r =>
        rw [hr] at hm ht
        cases hm
        cases ht with
        | cons ha ht =>
          rename_i a cs
          have e0 : AZ (.ptr pb 0) G H3 = some (.Nr tid off (cs.length + 1) 5) := Ag hg rfl
          simp only [go_sem, Nat.reduceAdd, e0, AJh]
          refine D7 hg rfl rfl (by omega) (by show 0 + 1 <= 5; omega) fun H4 g4 s4 => ?_
          refine fin ⟨⟨x.le, fun id hid hp => (s4 id hp).trans (x.f.same id hid hp)⟩, ?_, hb⟩ ((s4 _ (by omega)).trans g1) ((s4 _ (by omega)).trans g3)
          exact .mk (s := { s with t := t, r := r }) g4 ((AHp he).same fun id hid => by cases gK hid; exact s4 _ (by omega)) ht hp hl
end
end Go.PQ
namespace Go.PQ
open Go.Eng
set_option maxRecDepth 100000
section
variable {G : AP} {H : Heap} {n pb : Nat} {s s' : S} {k : KV}
theorem eH {ws : List Bs} {m : Nat} {P : KV} {Z : LV} (hm : ws.length = m) (h : ∀ H', Kp H n H' (n + 1) -> El G H' (.sl n 0 m m 1) 1 (wsC ws) -> P (.sl n 0 m m 1) H' (n + 1)) : Cb (Ah 1 m Z (uo 0 (ws.map sB)) E0) H n P := by
 refine Lh (G := G) (vs := ws.map sB) (by rw [List.length_map]; exact hm) (by omega) (fun v hv => ?_) fun H' f _ hel => h H' f ?_
 ·obtain ⟨w, _, rfl⟩ := List.mem_map.1 hv; exact ⟨rfl, rfl⟩
 ·rw [List.map_map] at hel; exact hel
theorem fP {ws : List Bs} {m : Nat} {P : KV} {Z : LV} (h : Vm G H pb s) (hb : pb < n) (hm : ws.length = m) (hw : ws.length <= 1000) (hk : ∀ H' n', Fr G pb H n H' n' s -> P (.bool (O5 ws s)) H' n') :
    Cb (Ah 1 m Z (uo 0 (ws.map sB)) E0) H n fun v H n => Runs F G CU [.ptr pb 0, v] H n P := by
  refine eH (G := G) hm fun H1 f1 hel => ?_
  have x := (Fr.refl h hb).al f1
  exact APS x.p hel hw (hk _ _ x)
theorem Ky {w : Bs} {b : Bool} (h : Vm G H pb s) (hb : pb < n) (hm : Cm w s = some (b, s')) (hk : ∀ H' n', Fr G pb H n H' n' s' -> k (.bool b) H' n') : Runs F G Aa [.ptr pb 0, sB w] H n k := by
 refine BZ (s := QM (IG lfp G)) OO (by obtain ⟨h, o⟩ := UA BX G; rw [OO] at h; cases h; exact o) ?_
 show IG lfp G (Runs F G) (.ptr pb 0) (sB w) H n k
 delta IG
 refine fP (ws := [w]) h hb rfl (by show 1 <= 1000; omega) fun H1 n1 x => ?_
 unfold Cm at hm
 rw [show O5 [w] s = PK w s by simp [O5]]
 cases ho : PK w s with
 | false =>
  rw [ho] at hm
  cases hm
  simp only [go_sem, Qe, Bool.not_false]
  exact hk _ _ x
 | true =>
  rw [ho, cond_true, Option.bind_eq_some_iff] at hm
  obtain ⟨s2, h2, hm⟩ := hm
  cases hm
  simp only [go_sem, Qe, Bool.not_true]
  exact Xd x.p x.lt h2 fun H2 n2 _ _ _ _ y => hk _ _ (x.tr y)
theorem ANf {ws : List Bs} {id o l c : Nat} (h : Vm G H pb s) (hb : pb < n) (hv : El G H (.sl id o l c 1) 1 (wsC ws)) (hid : id < n) (hip : pb < id) (hw : ws.length <= 1000) (hm : DI ws s = some s') (hk : ∀ H' n', Fr G pb H n H' n' s' -> k (.Gh []) H' n') :
    Runs F G Ar [.ptr pb 0, .sl id o l c 1] H n k := by
  refine BZ (s := QM (Hy lfp G)) OI (by obtain ⟨h, o⟩ := UD BX G; rw [OI] at h; cases h; exact o) ?_
  show Hy lfp G (Runs F G) (.ptr pb 0) (.sl id o l c 1) H n k
  delta Hy
  simp only [hv.len, ADz, go_sem]
  refine SA (N := ws.length) (J := fun j q => ∃ H' n' t, q = (.ptr pb 0, .sl id o l c 1, .int .i64 (.ofNat ws.length) 0, .int .i64 (.ofNat j) 0, H', n') /\ Fr G pb H n H' n' t /\ DI (ws.drop j) t = some s') ?_ ?_ ⟨H, n, s, rfl, Fr.refl h hb, hm⟩
  · rintro I j q hlt ⟨H1, n1, t, rfl, x, hm⟩ ih
    show FU lfp G (Runs F G) k I (.ptr pb 0) (.sl id o l c 1) (.int .i64 (.ofNat ws.length) 0) (.int .i64 (.ofNat j) 0) H1 n1
    delta FU
    have hv1 : El G H1 (.sl id o l c 1) 1 (wsC ws) := hv.same fun i hi => by cases DV hi; exact x.f.same id hid (by omega)
    obtain ⟨p, hp, hld⟩ := hv1.at (AAi hlt)
    rw [List.drop_eq_getElem_cons hlt, show ∀ (w : Bs) ws (s : S), DI (w :: ws) s = (Cm w s).bind fun p => DI ws (bif p.1 then p.2 else GX 21 p.2) from fun _ _ _ => rfl, Option.bind_eq_some_iff] at hm
    obtain ⟨⟨b, t2⟩, h2, hm⟩ := hm
    have hm : DI (ws.drop (j + 1)) (bif b then t2 else GX 21 t2) = some s' := hm
    generalize ws[j] = m at hld h2
    simp only [go_sem, P7, hlt, decide_true, hp, bK hld]
    refine Ky x.p x.lt h2 fun H2 n2 y => ?_
    have x := x.tr y
    simp only [go_sem, Qe]
    cases b with
    | true =>
      simp only [go_sem, Bool.not_true]
      delta Fe
      simp only [go_sem, La (show j + 1 < 9223372036854775808 by omega)]
      exact ih _ ⟨_, _, _, rfl, x, hm⟩
    | false =>
      simp only [go_sem, Bool.not_false]
      refine AH5 x.p fun H3 f3 p3 => ?_
      delta Fe
      simp only [go_sem, La (show j + 1 < 9223372036854775808 by omega)]
      exact ih _ ⟨_, _, _, rfl, ⟨x.f.trans f3, p3, x.b⟩, hm⟩
  · rintro I q ⟨H1, n1, t, rfl, x, hm⟩
    show FU lfp G (Runs F G) k I (.ptr pb 0) (.sl id o l c 1) (.int .i64 (.ofNat ws.length) 0) (.int .i64 (.ofNat ws.length) 0) H1 n1
    delta FU
    rw [List.drop_eq_nil_of_le (Nat.le_refl _)] at hm
    cases hm
    simp only [go_sem, P7, Nat.lt_irrefl, decide_false]
    exact hk _ _ x
theorem JC {ws : List Bs} {m : Nat} {P : KV} {Z : LV} (h : Vm G H pb s) (hb : pb < n) (hm : ws.length = m) (hw : ws.length <= 1000) (he : DI ws s = some s') (hk : ∀ H' n', Fr G pb H n H' n' s' -> P (.Gh []) H' n') :
    Cb (Ah 1 m Z (uo 0 (ws.map sB)) E0) H n fun v H n => Runs F G Ar [.ptr pb 0, v] H n P := by
  refine eH (G := G) hm fun H1 f1 hel => ?_
  have x := (Fr.refl h hb).al f1
  exact ANf x.p x.lt hel (by omega) hb hw he fun H2 n2 y => hk _ _ (x.tr y)
theorem Y4 {e : Nat} (h : Vm G H pb s) (hb : pb < n) (hk : ∀ H' n', Fr G pb H n H' n' (GX e s) -> k (.Gh []) H' n') : Runs F G Bh [.ptr pb 0, .int .i64 (.ofNat e) 0] H n k :=
 AH5 h fun H1 f p => hk _ _ ⟨f, p, hb⟩
theorem XO {kd : Nat} {l : Bs} (h : Vm G H pb s) (hb : pb < n) (hm : IB kd s = some (l, s')) (hk : ∀ H' n', Fr G pb H n H' n' s' -> k (sB l) H' n') : Runs F G CX [.ptr pb 0, .int .i64 (.ofNat kd) 0] H n k := by
 refine BZ (s := QM (IE lfp G)) OG (by obtain ⟨h, o⟩ := TK BX G; rw [OG] at h; cases h; exact o) ?_
 show IE lfp G (Runs F G) (.ptr pb 0) (.int .i64 (.ofNat kd) 0) H n k
 delta IE
 refine AEx h ?_
 unfold IB at hm
 have bad : IB kd s = some ([], GX 21 s) -> Runs F G Bh [.ptr pb 0, .int .i64 (.ofNat 21) 0] H n fun _ H n => k (.str 0 0) H n := fun hb' => by
  unfold IB at hb'
  rw [hb'] at hm
  cases hm
  exact Y4 h hb fun H1 n1 x => hk _ _ x
 have good : (LZ s).bind (fun s' => some (s.t.text, s')) = some (l, s') -> Runs F G CB [.ptr pb 0] H n fun v14 H n => AU (AF6 1 v14) fun v15 => k v15 H n := fun hm => by
  rw [Option.bind_eq_some_iff] at hm
  obtain ⟨s2, h2, hm⟩ := hm
  cases hm
  refine Xd h hb h2 fun H2 n2 line col _ _ y => ?_
  rw [AHs (show (QK s.t line col)[1]? = some (sB s.t.text) from rfl), Au]
  exact hk _ _ y
 obtain ⟨v, tid, o, line, col, e0, e1, x1, x2, e2, e3, e4, e5⟩ := h.tok
 cases ho : s.ok with
 | false =>
  simp only [Qe, Bool.not_false, go_sem]
  repeat (first | with_reducible refine AMP ?_ | with_reducible refine ABm ?_)
  exact bad (by unfold IB; rw [ho]; rfl)
 | true =>
  simp only [Qe, Bool.not_true, go_sem, Nat.reduceAdd, Nat.add_zero, e0, e1, e3, eu]
  cases hd : decide (s.t.kind = kd) with
  | false =>
   simp only [Bool.not_false, go_sem]
   exact bad (by unfold IB; rw [ho, hd]; rfl)
  | true =>
   rw [ho, hd] at hm
   simp only [Bool.not_true, go_sem]
   exact good hm
theorem AAP (h : Vm G H pb s) (hb : pb < n) (hm : Rl s = some s') (hk : ∀ H' n' q, Fr G pb H n H' n' s' -> n <= q -> q < n' -> T.get H' q = some (one [.ptr pb 0]) -> k (.fn CV [] [.ptr q 0]) H' n') : Runs F G IV [.ptr pb 0] H n k := by
 refine BZ (s := Eu (Ib lfp G)) OC (by obtain ⟨h, o⟩ := UQ BX G; rw [OC] at h; cases h; exact o) ?_
 show Ib lfp G (Runs F G) (.ptr pb 0) H n k
 delta Ib
 have x := Fr.refl h hb
 refine AER rfl fun H1 f1 g1 => ?_
 have x := x.al f1
 have g1 : T.get H1 n = some (one [.ptr pb 0]) := g1
 have q1 : AZ (.ptr n 0) G H1 = some (.ptr pb 0) := Ag g1 rfl
 unfold Rl at hm
 cases hd : decide (s.deep < 1000000) with
 | false => rw [hd] at hm; cases hm
 | true =>
  rw [hd, cond_true] at hm
  have hd := of_decide_eq_true hd
  simp only [go_sem, Nat.reduceAdd, q1, x.p.deep, La (show s.deep + 1 < 9223372036854775808 by omega)]
  have hp1 := x.p
  cases hp1 with
  | mk hg he ht hp hl =>
   refine D7 hg rfl rfl (by omega) (by show 1 + 1 <= 5; omega) fun H2 g2 s2 => ?_
   have q1 : AZ (.ptr n 0) G H2 = some (.ptr pb 0) := Ag ((s2 n (by omega)).trans g1) rfl
   have p2 : Vm G H2 pb { s with deep := s.deep + 1 } := .mk (s := { s with deep := s.deep + 1 }) g2 (he.same fun id hid => by cases gK hid; exact s2 _ (by omega)) ht hp hl
   have x : Fr G pb H n H2 (n + 1) { s with deep := s.deep + 1 } := ⟨⟨x.le, fun id hid hp => (s2 id hp).trans (x.f.same id hid hp)⟩, p2, hb⟩
   have e2 : AZ (.ptr pb 1) G H2 = some (.int .i64 (.ofNat (s.deep + 1)) 0) := p2.deep
   simp only [go_sem, Nat.reduceAdd, q1, e2, fZ]
   cases h100 : decide (100 < s.deep + 1) with
   | false =>
    rw [h100] at hm
    cases hm
    simp only [go_sem]
    delta FQ
    exact hk _ _ n x (Nat.le_refl _) (by omega) ((s2 n (by omega)).trans g1)
   | true =>
    rw [h100] at hm
    cases hm
    simp only [go_sem, q1]
    refine Y4 x.p x.lt fun H3 n3 y => ?_
    delta FQ
    exact hk _ _ n (x.tr y) (Nat.le_refl _) (by have := y.le; omega) (y.get ((s2 n (by omega)).trans g1) (by omega) hb)
theorem AKJ {q : Nat} {P : Heap -> Nat -> Prop} (h : Vm G H pb s) (hb : pb < n) (hq : T.get H q = some (one [.ptr pb 0])) (hm : aK s = some s') (hk : ∀ H' n', Fr G pb H n H' n' s' -> P H' n') :
    Jf 95 (bW (.Gh [.fn CV [] [.ptr q 0]])) (Runs F G) H n P := by
  show Gn (Nat.beq CV 95) (Runs F G CV [.ptr q 0] H n fun _ H n => P H n)
  rw [show Nat.beq CV 95 = true from rfl, ah]
  generalize hk' : (fun _ H n => P H n : KV) = k
  refine BZ (s := Eu (GU lfp G)) Di (by obtain ⟨h, o⟩ := Qi BX G; rw [Di] at h; cases h; exact o) ?_
  show GU lfp G (Runs F G) (.ptr q 0) H n k
  delta GU
  subst hk'
  unfold aK at hm
  cases hd : s.deep with
  | zero => rw [hd] at hm; cases hm
  | succ d =>
    rw [hd] at hm
    have hm : (bif decide (d < 1000000) then some { s with deep := d } else none) = some s' := hm
    cases hlt : decide (d < 1000000)
    · rw [hlt] at hm; cases hm
    rw [hlt, cond_true] at hm
    have hlt := of_decide_eq_true hlt
    cases hm
    have q1 : AZ (.ptr q 0) G H = some (.ptr pb 0) := Ag hq rfl
    have q2 := h.deep
    rw [hd] at q2
    have hbig : d + 1 < 9223372036854775808 := by omega
    simp only [go_sem, Nat.reduceAdd, q1, q2, AM8 hbig]
    cases h with
    | mk hg he ht hp hl =>
      refine D7 hg rfl rfl (by omega) (by show 1 + 1 <= 5; omega) fun H2 g2 s2 => ?_
      exact hk _ _ ⟨⟨Nat.le_refl _, fun id hid hp => s2 id hp⟩, .mk (s := { s with deep := d }) g2 (he.same fun id hid => by cases gK hid; exact s2 _ (by omega)) ht hp hl, hb⟩
def tyC (t : Ty) : LV := [sB t.nm, .bool t.arr]
theorem AGG {z0 z1 : V} (l : Bs) : BR [z0, z1] [(0, 1, .c (sB l))] = some (.agg [sB l, z1]) := rfl
theorem vG {l : Bs} (hk : ∀ H', Kp H n H' (n + 1) -> k (.agg [sB l, .bool false]) H' (n + 1)) : Runs F G jm [sB l] H n k := by
 refine BZ (s := Eu (Zz lfp G)) nH (by obtain ⟨h, o⟩ := yC BX G; rw [nH] at h; cases h; exact o) ?_
 show Zz lfp G (Runs F G) (sB l) H n k
 delta Zz
 simp only [go_sem, AGG]
 exact hk _ (((Kp.refl H n).new (m := n + 1) _ (Nat.le_refl _) (by omega)).new _ (Nat.le_refl _) (Nat.le_refl _))
theorem AFC (hk : ∀ H', Kp H n H' (n + 1) -> k (.agg [sB I4, .bool false]) H' (n + 1)) : Runs F G xM [] H n k := by
 refine BZ (s := ar0 (X9 lfp G)) gq (by obtain ⟨h, o⟩ := uI BX G; rw [gq] at h; cases h; exact o) ?_
 show X9 lfp G (Runs F G)  H n k
 delta X9
 simp only [AG8, go_sem, AGG]
 exact hk _ (((Kp.refl H n).new (m := n + 1) _ (Nat.le_refl _) (by omega)).new _ (Nat.le_refl _) (Nat.le_refl _))
theorem ACw (hk : ∀ H', Kp H n H' (n + 1) -> k (.agg [sB jF, .bool false]) H' (n + 1)) : Runs F G uh [] H n k := by
 refine BZ (s := ar0 (WE lfp G)) bU (by obtain ⟨h, o⟩ := oZ BX G; rw [bU] at h; cases h; exact o) ?_
 show WE lfp G (Runs F G)  H n k
 delta WE
 simp only [ACv, go_sem, AGG]
 exact hk _ (((Kp.refl H n).new (m := n + 1) _ (Nat.le_refl _) (by omega)).new _ (Nat.le_refl _) (Nat.le_refl _))
theorem AAN {m : Nat} (h : Vm G H pb s) (hb : pb < n) (hk : ∀ H' n', Fr G pb H n H' n' (Ia m s) -> k (.Gh []) H' n') : Runs F G IC [.ptr pb 0, .int .i64 (.ofNat m) 0] H n k := by
 refine BZ (s := QM (IU lfp G)) OM (by obtain ⟨h, o⟩ := S9 BX G; rw [OM] at h; cases h; exact o) ?_
 show IU lfp G (Runs F G) (.ptr pb 0) (.int .i64 (.ofNat m) 0) H n k
 delta IU
 unfold Ia at hk
 simp only [go_sem, fZ]
 cases hd : decide (200 < m) with
 | false => rw [hd] at hk; simp only [go_sem]; exact hk _ _ (Fr.refl h hb)
 | true => rw [hd] at hk; simp only [go_sem]; exact Y4 h hb hk
theorem AF5 {t : Ty} (h : Vm G H pb s) (hb : pb < n) (hm : ABK s = some (t, s')) (hk : ∀ H' n', Fr G pb H n H' n' s' -> k (.agg (tyC t)) H' n') : Runs F G O0 [.ptr pb 0] H n k := by
 refine BZ (s := Eu (IJ lfp G)) Nw (by obtain ⟨h, o⟩ := Td BX G; rw [Nw] at h; cases h; exact o) ?_
 show IJ lfp G (Runs F G) (.ptr pb 0) H n k
 delta IJ
 have x := Fr.refl h hb
 refine A8 rfl fun H1 f1 g1 => ?_
 have x := x.al f1
 unfold ABK at hm
 rw [Option.bind_eq_some_iff] at hm
 obtain ⟨⟨b, s2⟩, h2, hm⟩ := hm
 have hm : (bif b then some (⟨I4, false⟩, s2) else (Cm jF s2).bind fun p => bif p.1 then some (⟨jF, false⟩, p.2) else (IB 2 p.2).bind fun p => some (⟨p.1, false⟩, p.2)) = some (t, s') := hm
 rw [AG8, ACv]
 have fin : ∀ {H2 : Heap} {n2 : Nat} {l : Bs}, Fr G pb H n H2 n2 s' -> T.get H2 n = some (one [.str 0 0, .bool false]) -> t = ⟨l, false⟩ -> Bj 2 (.ptr n 0) (.agg [sB l, .bool false]) H2 n2 fun v4 H n_1 => FM (BQ [.cn (.ptr n 0) 2] G H) fun l => k (E8 l) H n_1 := by
  intro H2 n2 l x g ht
  subst ht
  refine Bo g rfl rfl (by omega) fun H3 g3 s3 => ?_
  rw [BL (m := 2) g3 (by omega) rfl]
  simp only [go_sem]
  exact hk _ _ (x.st (Nat.le_refl _) s3)
 refine Ky x.p x.lt h2 fun H2 n2 y => ?_
 have x := x.tr y
 have g1 := y.get g1 (by omega) hb
 cases b with
 | true =>
  cases hm
  simp only [go_sem]
  exact AFC fun H3 f3 => fin (x.al f3) (f3.get g1 (by have := y.le; omega)) rfl
 | false =>
  rw [cond_false, Option.bind_eq_some_iff] at hm
  obtain ⟨⟨b, s3⟩, h3, hm⟩ := hm
  simp only [go_sem]
  have hn := y.le
  refine Ky x.p x.lt h3 fun H3 n3 y => ?_
  have x := x.tr y
  have g1 := y.get g1 (by omega) hb
  have hn2 := y.le
  cases b with
  | true =>
   cases hm
   simp only [go_sem]
   exact ACw fun H3 f3 => fin (x.al f3) (f3.get g1 (by omega)) rfl
  | false =>
   rw [cond_false, Option.bind_eq_some_iff] at hm
   obtain ⟨⟨l, s4⟩, h4, hm⟩ := hm
   cases hm
   simp only [go_sem]
   refine XO x.p x.lt h4 fun H4 n4 y => ?_
   have x := x.tr y
   have g1 := y.get g1 (by omega) hb
   have hn3 := y.le
   exact vG fun H3 f3 => fin (x.al f3) (f3.get g1 (by omega)) rfl
theorem AEZ {t : Ty} (h : Vm G H pb s) (hb : pb < n) (hm : lG s = some (t, s')) (hk : ∀ H' n', Fr G pb H n H' n' s' -> k (.agg (tyC t)) H' n') : Runs F G I8 [.ptr pb 0] H n k := by
 refine BZ (s := Eu (I9 lfp G)) Oz (by obtain ⟨h, o⟩ := VH BX G; rw [Oz] at h; cases h; exact o) ?_
 show I9 lfp G (Runs F G) (.ptr pb 0) H n k
 delta I9
 have x := Fr.refl h hb
 refine A8 rfl fun H1 f1 g1 => ?_
 have x := x.al f1
 unfold lG at hm
 rw [Option.bind_eq_some_iff] at hm
 obtain ⟨⟨t1, s2⟩, h2, hm⟩ := hm
 rw [Option.bind_eq_some_iff] at hm
 obtain ⟨⟨b, s3⟩, h3, hm⟩ := hm
 have hm : (bif b then (DI [ku] s3).bind fun s => some ((⟨t1.nm, true⟩ : Ty), s) else some (t1, s3)) = some (t, s') := hm
 refine AF5 x.p x.lt h2 fun H2 n2 y => ?_
 have x := x.tr y
 have g1 := y.get g1 (by omega) hb
 have hn := y.le
 refine A8 rfl fun H3 f3 g3 => ?_
 have x := x.al f3
 have g1 := f3.get g1 (by omega)
 refine Bo (L := tyC t1) g3 rfl rfl (by omega) fun H4 g3 s4 => ?_
 have x := x.st (by omega) s4
 have g1 := (s4 n (by omega)).trans g1
 have fin : ∀ {H5 : Heap} {n5 : Nat}, Fr G pb H n H5 n5 s' -> T.get H5 n = some (one [.str 0 0, .bool false]) -> T.get H5 n2 = some (one (tyC t)) -> GN lfp G (Runs F G) k (.ptr n 0) (.ptr n2 0) H5 n5 := by
  intro H5 n5 x g1 g3
  delta GN
  rw [Aj (m := 2) g3 (by omega) rfl, Au]
  refine Bo g1 rfl rfl (by omega) fun H6 g6 s6 => ?_
  rw [BL (m := 2) g6 (by omega) rfl]
  simp only [go_sem]
  exact hk _ _ (x.st (Nat.le_refl _) s6)
 rw [ASZ]
 refine Ky x.p x.lt h3 fun H5 n5 y => ?_
 have x := x.tr y
 have g1 := y.get g1 (by omega) hb
 have g3 := y.get g3 (by omega) (by omega)
 have hn5 := y.le
 cases b with
 | false =>
  cases hm
  simp only [go_sem]
  exact fin x g1 g3
 | true =>
  rw [cond_true, Option.bind_eq_some_iff] at hm
  obtain ⟨s4, h4, hm⟩ := hm
  cases hm
  simp only [go_sem]
  refine JC (ws := [ku]) x.p x.lt rfl (by show 1 <= 1000; omega) h4 fun H6 n6 y => ?_
  have x := x.tr y
  have g1 := y.get g1 (by omega) hb
  have g3 := y.get g3 (by omega) (by omega)
  refine D7 g3 rfl rfl (by omega) (by show 1 + 1 <= 2; omega) fun H7 g7 s7 => ?_
  exact fin (x.st (by omega) s7) ((s7 n (by omega)).trans g1) g7
end
end Go.PQ
namespace Go.PQ
open Go.Eng
set_option maxRecDepth 100000
def qc (kind num : Nat) (nm ty : Bs) (arr : Bool) (line col : Nat) (v : V) : LV :=
 [.int .i64 (.ofNat kind) 0, .int .i64 (.ofNat line) 0, .int .i64 (.ofNat col) 0, .int .i64 (.ofNat num) 0, sB nm, sB ty, .bool arr, v, .str 0 0, .bool false, .str 0 0]
mutual
inductive DW (G : AP) (H : Heap) (A : Nat -> Prop) : LV -> Ex -> Prop where
 | mk (kind num : Nat) (nm ty : Bs) (arr : Bool) (line col : Nat) {v : V} {cs : D5} {kids : List Ex} (he : El G H v 11 cs) (hv : KH v v = true) (ha : ∀ id, v.UY = some id -> A id) (hc : QI G H A cs kids) :
  DW G H A (qc kind num nm ty arr line col v) (.mk kind num nm ty arr kids)
inductive QI (G : AP) (H : Heap) (A : Nat -> Prop) : D5 -> List Ex -> Prop where
 | nil : QI G H A [] []
 | cons {c : LV} {e : Ex} {cs : D5} {es : List Ex} (h : DW G H A c e) (t : QI G H A cs es) : QI G H A (c :: cs) (e :: es)
end
mutual
theorem DW.mono {G : AP} {H H' : Heap} {A B : Nat -> Prop} (hA : ∀ id, A id -> B id) (hs : ∀ id, A id -> T.get H' id = T.get H id) : ∀ {c : LV} {e : Ex}, DW G H A c e -> DW G H' B c e
 | _, _, .mk kind num nm ty arr line col he hv ha hc => .mk kind num nm ty arr line col (he.same fun id hid => hs id (ha id hid)) hv (fun id hid => hA id (ha id hid)) (QI.mono hA hs hc)
theorem QI.mono {G : AP} {H H' : Heap} {A B : Nat -> Prop} (hA : ∀ id, A id -> B id) (hs : ∀ id, A id -> T.get H' id = T.get H id) : ∀ {cs : D5} {es : List Ex}, QI G H A cs es -> QI G H' B cs es
 | _, _, .nil => .nil
 | _, _, .cons h t => .cons (DW.mono hA hs h) (QI.mono hA hs t)
end
theorem QI.app {G : AP} {H : Heap} {A : Nat -> Prop} : ∀ {cs : D5} {es : List Ex} {cs' : D5} {es' : List Ex}, QI G H A cs es -> QI G H A cs' es' -> QI G H A (cs ++ cs') (es ++ es')
 | _, _, _, _, .nil, h => h
 | _, _, _, _, .cons h t, h' => .cons h (t.app h')
theorem QI.len {G : AP} {H : Heap} {A : Nat -> Prop} : ∀ {cs : D5} {es : List Ex}, QI G H A cs es -> cs.length = es.length
 | _, _, .nil => rfl
 | _, _, .cons h t => by simp [t.len]
theorem nR (q : IntKind) (a : Int) : KH (.int q a 0) (.int q a 0) = true := by simp [KH, ADi, BU, SQ, Qo]
theorem ACJ (l c : Nat) : KH (.str l c) (.str l c) = true := by simp [KH, AD8, BU]
theorem AET (b : Bool) : KH (.bool b) (.bool b) = true := by cases b <;> rfl
theorem W9 (a b c d e : Nat) : KH (.sl a b c d e) (.sl a b c d e) = true := by simp [KH, AIZ, BU]
theorem AAF (a b c d : Nat) : KH (.Nr a b c d) (.Nr a b c d) = true := by simp [KH, AD2, BU]
theorem AKg : KH .Ae .Ae = true := rfl
theorem vsL : ∀ L : LV, (∀ v ∈ L, KH v v = true) -> nJ L L = true
 | [], _ => rfl
 | v :: L, h => by
  show band (KH v v) (nJ L L) = true
  rw [h v (List.mem_cons_self ..), vsL L fun w hw => h w (List.mem_cons_of_mem _ hw)]; rfl
theorem zH {L : LV} (h : ∀ v ∈ L, KH v v = true) : Ci (.agg L) (.agg L) = true := vsL L h
theorem Ug (line col : Nat) : Ci (.agg [.int .i64 (.ofNat line) 0, .int .i64 (.ofNat col) 0]) (.agg [.int .i64 (.ofNat line) 0, .int .i64 (.ofNat col) 0]) = true :=
 zH fun v hv => by simp at hv; rcases hv with rfl | rfl <;> exact nR ..
theorem RU (l : Bs) : Ci (sB l) (sB l) = true := ACJ ..
section
variable {G : AP} {H : Heap} {A : Nat -> Prop} {c : LV} {e : Ex}
theorem DW.len (h : DW G H A c e) : c.length = 11 := by cases h; rfl
theorem DW.kd (h : DW G H A c e) : c[0]? = some (.int .i64 (.ofNat e.kind) 0) := by cases h; rfl
theorem DW.vs (h : DW G H A c e) : Ci (.agg c) (.agg c) = true := by
 cases h with
 | mk kind num nm ty arr line col he hv ha hc =>
  refine zH fun v hv' => ?_
  simp only [qc, List.mem_cons, List.not_mem_nil, or_false] at hv'
  rcases hv' with rfl | rfl | rfl | rfl | rfl | rfl | rfl | rfl | rfl | rfl | rfl <;> first | exact nR .. | exact ACJ .. | exact AET .. | exact hv
end
def Rg (a b : Nat) : Nat -> Prop := fun id => a <= id /\ id < b
def Al (a b x : Nat) : Nat -> Prop := fun id => a < id /\ id < b /\ id ≠ x
theorem E5 {v : V} {P : Prop} (h : Ci v v = true) (hp : P) : Gn (Ci v v) P := by rw [h]; exact hp
abbrev pF : LV := [.int .i64 (.ofNat 0) 0, .int .i64 (.ofNat 0) 0, .int .i64 (.ofNat 0) 0, .int .i64 (.ofNat 0) 0, .str 0 0, .str 0 0, .bool false, .Ae, .str 0 0, .bool false, .str 0 0]
def ExK (G : AP) (pb : Nat) (H : Heap) (n : Nat) (s' : S) (e : Ex) (k : KV) : Prop := ∀ H' n' c, Fr G pb H n H' n' s' -> DW G H' (Rg n n') c e -> k (.agg c) H' n'
def Bxs (H : Heap) (n pb : Nat) (bs : List Nat) : Prop := ∀ b ∈ bs, pb < b /\ b < n /\ T.get H b = some (one [.ptr pb 0])
theorem Bxs.fr {G : AP} {H H' : Heap} {n n' pb : Nat} {s' : S} {bs : List Nat} (h : Bxs H n pb bs) (y : Fr G pb H n H' n' s') : Bxs H' n' pb bs := fun b hb => by
 obtain ⟨h1, h2, h3⟩ := h b hb
 exact ⟨h1, Nat.lt_of_lt_of_le h2 y.le, y.get h3 h2 h1⟩
theorem Bxs.nil {H : Heap} {n pb : Nat} : Bxs H n pb [] := fun _ h => by cases h
def FnC (G : AP) (pb : Nat) (bs : List Nat) (m : PM Ex) (v : V) : Prop := ∀ (s : S) (H : Heap) (n : Nat) (s' : S) (e : Ex) (k : KV), Vm G H pb s -> pb < n -> Bxs H n pb bs -> m s = some (e, s') -> ExK G pb H n s' e k -> JV v [] (Runs F G) H n k
theorem AC2 {kd : Nat} {x y : V} {id o l c : Nat} : BR pF [(0, 1, .c (.int .i64 (.ofNat kd) 0)), (1, 2, .c (.agg [x, y])), (7, 1, .c (.sl id o l c 11))] =
    some (.agg [.int .i64 (.ofNat kd) 0, x, y, .int .i64 (.ofNat 0) 0, .str 0 0, .str 0 0, .bool false, .sl id o l c 11, .str 0 0, .bool false, .str 0 0]) := rfl
section
variable {G : AP} {H : Heap} {n pb : Nat} {s s' : S} {k : KV}
theorem gy {H0 H : Heap} {n0 n r b : Nat} {c L0 : LV} {e : Ex} {A : Nat -> Prop} (x : Fr G pb H0 n0 H n s') (gr : T.get H r = some (one L0)) (hl : L0.length = 11) (gb : T.get H b = some (one c)) (hr : n0 <= r) (he : DW G H A c e)
    (hA : ∀ id, A id -> n0 <= id /\ id < n /\ id ≠ r) (hk : ExK G pb H0 n0 s' e k) :
    AU (BH 11 (.ptr b 0) G H) fun v6 => Bj 11 (.ptr r 0) v6 H n fun _ H n => FM (BQ [.cn (.ptr r 0) 11] G H) fun l => k (E8 l) H n := by
  rw [Aj (m := 11) gb (by omega) he.len, Au]
  refine Bo gr hl he.len (by omega) fun H1 g1 s1 => ?_
  rw [BL (m := 11) g1 (by omega) he.len]
  simp only [go_sem]
  exact hk _ _ _ (x.st hr s1) (he.mono (fun id h => ⟨(hA id h).1, (hA id h).2.1⟩) fun id h => s1 id (hA id h).2.2)
theorem ABw {bs : List Nat} {m : PM Ex} {v : V} {kd f : Nat} {w : Bs} {e : Ex} (hf : FnC G pb bs m v) (hbs : Bxs H n pb bs) (h : Vm G H pb s) (hb : pb < n) (hm : either kd w m f s = some (e, s')) (hk : ExK G pb H n s' e k) :
    Runs F G NK [.ptr pb 0, .int .i64 (.ofNat kd) 0, sB w, v] H n k := by
  refine BZ (s := ar4 (GV lfp G)) Ls (by obtain ⟨h, o⟩ := Qk BX G; rw [Ls] at h; cases h; exact o) ?_
  show GV lfp G (Runs F G) (.ptr pb 0) (.int .i64 (.ofNat kd) 0) (sB w) v H n k
  delta GV
  have x := Fr.refl h hb
  refine A8 rfl fun H1 f1 g1 => ?_
  have x := x.al f1
  unfold either at hm
  rw [Option.bind_eq_some_iff] at hm
  obtain ⟨⟨e1, s1⟩, h1, hm⟩ := hm
  have hm : dP kd w m f e1 s1 = some (e, s') := hm
  refine hf s H1 (n + 1) s1 e1 _ x.p x.lt (hbs.fr x) h1 fun H2 n2 c y hx => ?_
  have x := x.tr y
  have g1 := y.get g1 (by omega) hb
  have hn2 := y.le
  refine A8 rfl fun H3 f3 g3 => ?_
  have x := x.al f3
  have g1 := f3.get g1 (by omega)
  refine Bo g3 rfl hx.len (by omega) fun H4 g4 s4 => ?_
  have x := x.st (by omega) s4
  have g1 := (s4 n (by omega)).trans g1
  have hx : DW G H4 (Al n (n2 + 1) n2) c e1 := hx.mono (fun id h => ⟨by have := h.1; omega, by have := h.2; omega, by have := h.2; omega⟩) fun id h => (s4 id (by have := h.2; omega)).trans (f3.same id h.2)
  refine LC (J := fun g q => ∃ H' n' t c e1, q = (.ptr pb 0, .int .i64 (.ofNat kd) 0, sB w, v, .ptr n 0, .ptr n2 0, H', n') /\ Fr G pb H n H' n' t /\ n2 < n' /\ T.get H' n = some (one pF) /\ T.get H' n2 = some (one c) /\ DW G H' (Al n n' n2) c e1 /\ dP kd w m g e1 t = some (e, s')) ?_ (m := f)
    ⟨H4, n2 + 1, s1, c, e1, rfl, x, by omega, g1, g4, hx, hm⟩
  rintro I g q ⟨H5, n5, t, c, e1, rfl, x, hn5, g1, g4, hx, hm⟩ ih
  show KI lfp G (Runs F G) k I (.ptr pb 0) (.int .i64 (.ofNat kd) 0) (sB w) v (.ptr n 0) (.ptr n2 0) H5 n5
  delta KI
  cases g with
  | zero => cases hm
  | succ g =>
    have hm : (bif O5 [w] t then (LZ t).bind fun s1 => (m s1).bind fun p => dP kd w m g (.mk kd 0 [] [] false [e1, p.1]) p.2 else some (e1, t)) = some (e, s') := hm
    refine fP (ws := [w]) x.p x.lt rfl (by show 1 <= 1000; omega) fun H6 n6 y => ?_
    have x := x.tr y
    have hn6 := y.le
    have g1 := y.get g1 (by omega) hb
    have g4 := y.get g4 (by omega) (by omega)
    have hx : DW G H6 (Al n n6 n2) c e1 := hx.mono (fun id h => ⟨h.1, by have := h.2.1; omega, h.2.2⟩) fun id h => y.f.same id h.2.1 (by have := h.1; omega)
    cases hi : O5 [w] t with
    | false =>
      rw [hi] at hm
      cases hm
      simp only [go_sem]
      delta KF
      exact gy x g1 rfl g4 (Nat.le_refl _) hx (fun id h => ⟨by have := h.1; omega, h.2.1, by have := h.1; omega⟩) hk
    | true =>
      rw [hi, cond_true, Option.bind_eq_some_iff] at hm
      obtain ⟨t1, h1, hm⟩ := hm
      rw [Option.bind_eq_some_iff] at hm
      obtain ⟨⟨e2, t2⟩, h2, hm⟩ := hm
      rw [Bv]
      refine Xd x.p x.lt h1 fun H7 n7 line col _ _ y => ?_
      have x := x.tr y
      have hn7 := y.le
      have g1 := y.get g1 (by omega) hb
      have g4 := y.get g4 (by omega) (by omega)
      have hx : DW G H7 (Al n n7 n2) c e1 := hx.mono (fun id h => ⟨h.1, by have := h.2.1; omega, h.2.2⟩) fun id h => y.f.same id h.2.1 (by have := h.1; omega)
      rw [show ANr 3 2 (.agg (QK t.t line col)) = some (.agg [.int .i64 (.ofNat line) 0, .int .i64 (.ofNat col) 0]) from rfl, Au]
      refine A8 rfl fun H8 f8 g8 => ?_
      have x := x.al f8
      refine Bo g8 rfl (L := [.int .i64 (.ofNat line) 0, .int .i64 (.ofNat col) 0]) rfl (by omega) fun H9 g9 s9 => ?_
      have x := x.st (by omega) s9
      have g1 := (s9 n (by omega)).trans (f8.get g1 (by omega))
      have g4 := (s9 n2 (by omega)).trans (f8.get g4 (by omega))
      have hx : DW G H9 (Al n n7 n2) c e1 := hx.mono (fun id h => h) fun id h => (s9 id (by have := h.2.1; omega)).trans (f8.same id h.2.1)
      rw [Aj (m := 2) g9 (by omega) rfl, Au, Aj (m := 11) g4 (by omega) hx.len, Au]
      refine hf _ H9 (n7 + 1) _ _ _ x.p x.lt (hbs.fr x) h2 fun H10 n10 c2 y hx2 => ?_
      have x := x.tr y
      have hn10 := y.le
      have g1 := y.get g1 (by omega) hb
      have g4 := y.get g4 (by omega) (by omega)
      have g9 := y.get g9 (by omega) (by omega)
      rw [Aj (m := 2) g9 (by omega) rfl, Au, Aj (m := 11) g4 (by omega) hx.len]
      refine E5 (Ug ..) (E5 hx.vs ?_)
      refine Lh (G := G) (vs := [.agg c, .agg c2]) rfl (by omega) (fun v hv => by simp at hv; rcases hv with rfl | rfl; exact ⟨rfl, hx.len⟩; exact ⟨rfl, hx2.len⟩) fun H11 f11 _ hel => ?_
      have x := x.al f11
      have g1 := f11.get g1 (by omega)
      have g4 := f11.get g4 (by omega)
      rw [AC2, Au]
      refine Bo g4 hx.len rfl (by omega) fun H12 g12 s12 => ?_
      have x := x.st (by omega) s12
      refine ih g _ (by omega) ⟨H12, n10 + 1, t2, _, .mk kd 0 [] [] false [e1, e2], rfl, x, by omega, (s12 n (by omega)).trans g1, g12, ?_, hm⟩
      refine .mk kd 0 [] [] false line col (hel.same fun id hid => s12 id (by cases DV hid; omega)) (W9 ..) (fun id hid => ⟨by cases DV hid; omega, by cases DV hid; omega, by cases DV hid; omega⟩) ?_
      refine .cons (hx.mono (fun id h => ⟨h.1, by have := h.2.1; omega, h.2.2⟩) fun id h => ?_) (.cons (hx2.mono (fun id h => ⟨by have := h.1; omega, by have := h.2; omega, by have := h.1; omega⟩) fun id h => ?_) .nil)
      · have h1 := h.1; have h2 := h.2.1
        exact (s12 id h.2.2).trans ((f11.same id (by omega)).trans (y.f.same id (by omega) (by omega)))
      · have h1 := h.1; have h2 := h.2
        exact (s12 id (by omega)).trans (f11.same id h2)
end
end Go.PQ
namespace Go.PQ
open Go.Eng
set_option maxRecDepth 100000
theorem yx {kd : Nat} {x y : V} {nm : Bs} {id o l c : Nat} : BR pF [(0, 1, .c (.int .i64 (.ofNat kd) 0)), (1, 2, .c (.agg [x, y])), (4, 1, .c (sB nm)), (7, 1, .c (.sl id o l c 11))] =
    some (.agg [.int .i64 (.ofNat kd) 0, x, y, .int .i64 (.ofNat 0) 0, sB nm, .str 0 0, .bool false, .sl id o l c 11, .str 0 0, .bool false, .str 0 0]) := rfl
section
variable {G : AP} {H : Heap} {n pb : Nat} {s s' : S} {k : KV}
theorem AC6 {H0 H : Heap} {n0 n r : Nat} {c L0 : LV} {e : Ex} {A : Nat -> Prop} (x : Fr G pb H0 n0 H n s') (gr : T.get H r = some (one L0)) (hl : L0.length = 11) (hr : n0 <= r) (he : DW G H A c e)
    (hA : ∀ id, A id -> n0 <= id /\ id < n /\ id ≠ r) (hk : ExK G pb H0 n0 s' e k) :
    Bj 11 (.ptr r 0) (.agg c) H n fun _ H n => FM (BQ [.cn (.ptr r 0) 11] G H) fun l => k (E8 l) H n := by
  refine Bo gr hl he.len (by omega) fun H1 g1 s1 => ?_
  rw [BL (m := 11) g1 (by omega) he.len]
  simp only [go_sem]
  exact hk _ _ _ (x.st hr s1) (he.mono (fun id h => ⟨(hA id h).1, (hA id h).2.1⟩) fun id h => s1 id (hA id h).2.2)
theorem AEU {bs : List Nat} {ws : List Bs} {m : PM Ex} {v : V} {i o l cp f : Nat} {e : Ex} (hf : FnC G pb bs m v) (hbs : Bxs H n pb bs) (hv : El G H (.sl i o l cp 1) 1 (wsC ws)) (hin : i < n) (hip : pb < i) (hw : ws.length <= 1000)
    (h : Vm G H pb s) (hb : pb < n) (hm : signs ws m f s = some (e, s')) (hk : ExK G pb H n s' e k) :
    Runs F G OE [.ptr pb 0, v, .sl i o l cp 1] H n k := by
  refine BZ (s := ar3 (Gv lfp G)) NC (by obtain ⟨h, o⟩ := RN BX G; rw [NC] at h; cases h; exact o) ?_
  show Gv lfp G (Runs F G) (.ptr pb 0) v (.sl i o l cp 1) H n k
  delta Gv
  have x := Fr.refl h hb
  refine A8 rfl fun H1 f1 g1 => ?_
  have x := x.al f1
  unfold signs at hm
  rw [Option.bind_eq_some_iff] at hm
  obtain ⟨⟨e1, s1⟩, h1, hm⟩ := hm
  have hm : l9 ws m f e1 s1 = some (e, s') := hm
  refine hf s H1 (n + 1) s1 e1 _ x.p x.lt (hbs.fr x) h1 fun H2 n2 c y hx => ?_
  have x := x.tr y
  have g1 := y.get g1 (by omega) hb
  have hn2 := y.le
  refine A8 rfl fun H3 f3 g3 => ?_
  have x := x.al f3
  have g1 := f3.get g1 (by omega)
  refine Bo g3 rfl hx.len (by omega) fun H4 g4 s4 => ?_
  have x := x.st (by omega) s4
  have g1 := (s4 n (by omega)).trans g1
  have hx : DW G H4 (Al n (n2 + 1) n2) c e1 := hx.mono (fun id h => ⟨by have := h.1; omega, by have := h.2; omega, by have := h.2; omega⟩) fun id h => (s4 id (by have := h.2; omega)).trans (f3.same id h.2)
  refine LC (J := fun g q => ∃ H' n' t c e1, q = (.ptr pb 0, v, .sl i o l cp 1, .ptr n 0, .ptr n2 0, H', n') /\ Fr G pb H n H' n' t /\ n2 < n' /\ T.get H' n = some (one pF) /\ T.get H' n2 = some (one c) /\ DW G H' (Al n n' n2) c e1 /\ l9 ws m g e1 t = some (e, s')) ?_ (m := f)
    ⟨H4, n2 + 1, s1, c, e1, rfl, x, by omega, g1, g4, hx, hm⟩
  rintro I g q ⟨H5, n5, t, c, e1, rfl, x, hn5, g1, g4, hx, hm⟩ ih
  show Kv lfp G (Runs F G) k I (.ptr pb 0) v (.sl i o l cp 1) (.ptr n 0) (.ptr n2 0) H5 n5
  delta Kv
  cases g with
  | zero => cases hm
  | succ g =>
    have hm : (bif O5 ws t then (LZ t).bind fun s1 => (m s1).bind fun p => l9 ws m g (.mk 16 0 t.t.text [] false [e1, p.1]) p.2 else some (e1, t)) = some (e, s') := hm
    refine APS x.p (hv.same fun j hj => by cases DV hj; exact x.f.same _ hin (by omega)) hw ?_
    cases hi : O5 ws t with
    | false =>
      rw [hi] at hm
      cases hm
      rw [Bl]
      delta Kr
      exact gy x g1 rfl g4 (Nat.le_refl _) hx (fun id h => ⟨by have := h.1; omega, h.2.1, by have := h.1; omega⟩) hk
    | true =>
      rw [hi, cond_true, Option.bind_eq_some_iff] at hm
      obtain ⟨t1, h1, hm⟩ := hm
      rw [Option.bind_eq_some_iff] at hm
      obtain ⟨⟨e2, t2⟩, h2, hm⟩ := hm
      rw [Bv]
      refine Xd x.p x.lt h1 fun H7 n7 line col _ _ y => ?_
      have x := x.tr y
      have hn7 := y.le
      have g1 := y.get g1 (by omega) hb
      have g4 := y.get g4 (by omega) (by omega)
      have hx : DW G H7 (Al n n7 n2) c e1 := hx.mono (fun id h => ⟨h.1, by have := h.2.1; omega, h.2.2⟩) fun id h => y.f.same id h.2.1 (by have := h.1; omega)
      refine A8 rfl fun H8 f8 g8 => ?_
      have x := x.al f8
      refine Bo g8 rfl (L := QK t.t line col) rfl (by omega) fun H9 g9 s9 => ?_
      have x := x.st (by omega) s9
      have g1 := (s9 n (by omega)).trans (f8.get g1 (by omega))
      have g4 := (s9 n2 (by omega)).trans (f8.get g4 (by omega))
      have hx : DW G H9 (Al n n7 n2) c e1 := hx.mono (fun id h => h) fun id h => (s9 id (by have := h.2.1; omega)).trans (f8.same id h.2.1)
      rw [Aw, Au, Aw]
      simp only [Nat.zero_add]
      rw [Ko (m := 2) (o := 3) g9 (by omega) (by show 3 + 2 <= 5; omega), Au, Au, Ag (off := 1) g9 (v := sB t.t.text) rfl, Au, Aj (m := 11) g4 (by omega) hx.len, Au]
      refine hf _ H9 (n7 + 1) _ _ _ x.p x.lt (hbs.fr x) h2 fun H10 n10 c2 y hx2 => ?_
      have x := x.tr y
      have hn10 := y.le
      have g1 := y.get g1 (by omega) hb
      have g4 := y.get g4 (by omega) (by omega)
      have g9 := y.get g9 (by omega) (by omega)
      rw [Ko (m := 2) (o := 3) g9 (by omega) (by show 3 + 2 <= 5; omega), Au, Ag (off := 1) g9 (v := sB t.t.text) rfl, Au, Aj (m := 11) g4 (by omega) hx.len]
      refine E5 (Ug ..) (E5 (RU _) (E5 hx.vs ?_))
      refine Lh (G := G) (vs := [.agg c, .agg c2]) rfl (by omega) (fun v hv => by simp at hv; rcases hv with rfl | rfl; exact ⟨rfl, hx.len⟩; exact ⟨rfl, hx2.len⟩) fun H11 f11 _ hel => ?_
      have x := x.al f11
      have g1 := f11.get g1 (by omega)
      have g4 := f11.get g4 (by omega)
      refine (show ∀ {P : V -> Prop}, P _ -> AU (BR pF [(0, 1, .c (.int .i64 (.ofNat 16) 0)), (1, 2, .c (.agg [.int .i64 (.ofNat line) 0, .int .i64 (.ofNat col) 0])), (4, 1, .c (sB t.t.text)), (7, 1, .c (.sl n10 0 2 2 11))]) P from fun h => by rw [yx]; exact h) ?_
      refine Bo g4 hx.len rfl (by omega) fun H12 g12 s12 => ?_
      have x := x.st (by omega) s12
      refine ih g _ (by omega) ⟨H12, n10 + 1, t2, _, .mk 16 0 t.t.text [] false [e1, e2], rfl, x, by omega, (s12 n (by omega)).trans g1, g12, ?_, hm⟩
      refine .mk 16 0 t.t.text [] false line col (hel.same fun id hid => s12 id (by cases DV hid; omega)) (W9 ..) (fun id hid => ⟨by cases DV hid; omega, by cases DV hid; omega, by cases DV hid; omega⟩) ?_
      refine .cons (hx.mono (fun id h => ⟨h.1, by have := h.2.1; omega, h.2.2⟩) fun id h => ?_) (.cons (hx2.mono (fun id h => ⟨by have := h.1; omega, by have := h.2; omega, by have := h.1; omega⟩) fun id h => ?_) .nil)
      · have h1 := h.1; have h2 := h.2.1
        exact (s12 id h.2.2).trans ((f11.same id (by omega)).trans (y.f.same id (by omega) (by omega)))
      · have h1 := h.1; have h2 := h.2
        exact (s12 id (by omega)).trans (f11.same id h2)
end
end Go.PQ
namespace Go.PQ
open Go.Eng
set_option maxRecDepth 100000
section
variable {G : AP} {pb : Nat}
theorem one1 {H : Heap} {n b : Nat} (h : Bxs H n pb [b]) : pb < b /\ b < n /\ T.get H b = some (one [.ptr pb 0]) := h b (List.mem_cons_self ..)
theorem ALQ {un : PM Ex} {f b : Nat} (hf : FnC G pb [] un (.fn CP [.ptr pb 0] [])) : FnC G pb [b] (signs [WH, QZ, jl] un f) (.fn Iz [] [.ptr b 0]) := by
 intro s H n s' e k h hb hbs hm hk
 rw [dX]
 show Runs F G Iz [.ptr b 0] H n k
 refine BZ (s := Eu (D9 lfp G)) Hw (by obtain ⟨h, o⟩ := MR BX G; rw [Hw] at h; cases h; exact o) ?_
 show D9 lfp G (Runs F G) (.ptr b 0) H n k
 delta D9
 obtain ⟨b1, b2, b3⟩ := one1 hbs
 have x := Fr.refl h hb
 refine A8 rfl fun H1 f1 g1 => ?_
 have x := x.al f1
 have b3 := f1.get b3 b2
 have q : AZ (.ptr b 0) G H1 = some (.ptr pb 0) := Ag b3 rfl
 rw [q, Au, Au]
 refine eH (G := G) (ws := [WH, QZ, jl]) rfl fun H2 f2 hel => ?_
 have x := x.al f2
 have g1 := f2.get g1 (by omega)
 refine AEU hf Bxs.nil hel (by omega) (by omega) (by show 3 <= 1000; omega) x.p x.lt hm fun H3 n3 c y hx => ?_
 have hn := y.le
 exact AC6 (x.tr y) (y.get g1 (by omega) hb) rfl (Nat.le_refl _) hx (fun id h => ⟨by have := h.1; omega, h.2, by have := h.1; omega⟩) hk
theorem AKq {un : PM Ex} {f b : Nat} (hf : FnC G pb [] un (.fn CP [.ptr pb 0] [])) : FnC G pb [b] (sumP un f) (.fn F8 [] [.ptr b 0]) := by
 intro s H n s' e k h hb hbs hm hk
 rw [dX]
 show Runs F G F8 [.ptr b 0] H n k
 refine BZ (s := Eu (ER lfp G)) JA (by obtain ⟨h, o⟩ := OJ BX G; rw [JA] at h; cases h; exact o) ?_
 show ER lfp G (Runs F G) (.ptr b 0) H n k
 delta ER
 obtain ⟨b1, b2, b3⟩ := one1 hbs
 have x := Fr.refl h hb
 refine A8 rfl fun H1 f1 g1 => ?_
 have x := x.al f1
 have b3 := f1.get b3 b2
 have q : AZ (.ptr b 0) G H1 = some (.ptr pb 0) := Ag b3 rfl
 rw [q, Au]
 refine eH (G := G) (ws := [Y1, CG]) rfl fun H2 f2 hel => ?_
 have x := x.al f2
 have g1 := f2.get g1 (by omega)
 refine AEU (ALQ hf) (fun j hj => by simp at hj; subst hj; exact ⟨b1, by omega, f2.get b3 (by omega)⟩) hel (by omega) (by omega) (by show 2 <= 1000; omega) x.p x.lt hm fun H3 n3 c y hx => ?_
 have hn := y.le
 exact AC6 (x.tr y) (y.get g1 (by omega) hb) rfl (Nat.le_refl _) hx (fun id h => ⟨by have := h.1; omega, h.2, by have := h.1; omega⟩) hk
theorem ADY {un : PM Ex} {f : Nat} (hf : FnC G pb [] un (.fn CP [.ptr pb 0] [])) : FnC G pb [] (compared un f) (.fn Kt [.ptr pb 0] []) := by
 intro s H n s' e k h hb hbs hm hk
 rw [dX]
 show Runs F G Kt [.ptr pb 0] H n k
 refine BZ (s := Eu (FC lfp G)) J8 (by obtain ⟨h, o⟩ := PV BX G; rw [J8] at h; cases h; exact o) ?_
 show FC lfp G (Runs F G) (.ptr pb 0) H n k
 delta FC
 unfold compared at hm
 rw [Option.bind_eq_some_iff] at hm
 obtain ⟨⟨e1, t⟩, h1, hm⟩ := hm
 have hm : (bif O5 [XT, kG, Ua, jk] t then (LZ t).bind fun s1 => (sumP un f s1).bind fun q => some (.mk 16 0 t.t.text [] false [e1, q.1], q.2) else some (e1, t)) = some (e, s') := hm
 have x := Fr.refl h hb
 refine AER rfl fun H0 f0 g0 => ?_
 have x := x.al f0
 have g0 : T.get H0 n = some (one [.ptr pb 0]) := g0
 refine A8 rfl fun H1 f1 g1 => ?_
 have x := x.al f1
 have g0 := f1.get g0 (by omega)
 refine AKq (b := n) hf _ H1 (n + 1 + 1) _ _ _ x.p x.lt (fun j hj => by simp at hj; subst hj; exact ⟨hb, by omega, g0⟩) h1 fun H2 n2 c y hx => ?_
 have x := x.tr y
 have g0 := y.get g0 (by omega) hb
 have g1 := y.get g1 (by omega) (by omega)
 have hn2 := y.le
 refine A8 rfl fun H3 f3 g3 => ?_
 have x := x.al f3
 have g0 := f3.get g0 (by omega)
 have g1 := f3.get g1 (by omega)
 refine Bo g3 rfl hx.len (by omega) fun H4 g4 s4 => ?_
 have x := x.st (by omega) s4
 have g0 := (s4 n (by omega)).trans g0
 have g1 := (s4 (n + 1) (by omega)).trans g1
 have hx : DW G H4 (Al (n + 1) (n2 + 1) n2) c e1 := hx.mono (fun id h => ⟨by have := h.1; omega, by have := h.2; omega, by have := h.2; omega⟩) fun id h => (s4 id (by have := h.2; omega)).trans (f3.same id h.2)
 have q : AZ (.ptr n 0) G H4 = some (.ptr pb 0) := Ag g0 rfl
 rw [q, Au]
 refine fP (ws := [XT, kG, Ua, jk]) x.p x.lt rfl (by show 4 <= 1000; omega) fun H6 n6 y => ?_
 have x := x.tr y
 have hn6 := y.le
 have g0 := y.get g0 (by omega) hb
 have g1 := y.get g1 (by omega) (by omega)
 have g4 := y.get g4 (by omega) (by omega)
 have hx : DW G H6 (Al (n + 1) n6 n2) c e1 := hx.mono (fun id h => ⟨h.1, by have := h.2.1; omega, h.2.2⟩) fun id h => y.f.same id h.2.1 (by have := h.1; omega)
 cases hi : O5 [XT, kG, Ua, jk] t with
 | false =>
  rw [hi] at hm
  cases hm
  rw [Bl]
  delta EI
  exact gy x g1 rfl g4 (by omega) hx (fun id h => ⟨by have := h.1; omega, h.2.1, by have := h.1; omega⟩) hk
 | true =>
  rw [hi, cond_true, Option.bind_eq_some_iff] at hm
  obtain ⟨t1, h1, hm⟩ := hm
  rw [Option.bind_eq_some_iff] at hm
  obtain ⟨⟨e2, t2⟩, h2, hm⟩ := hm
  cases hm
  have q : AZ (.ptr n 0) G H6 = some (.ptr pb 0) := Ag g0 rfl
  rw [Bv, q, Au]
  refine Xd x.p x.lt h1 fun H7 n7 line col _ _ y => ?_
  have x := x.tr y
  have hn7 := y.le
  have g0 := y.get g0 (by omega) hb
  have g1 := y.get g1 (by omega) (by omega)
  have g4 := y.get g4 (by omega) (by omega)
  have hx : DW G H7 (Al (n + 1) n7 n2) c e1 := hx.mono (fun id h => ⟨h.1, by have := h.2.1; omega, h.2.2⟩) fun id h => y.f.same id h.2.1 (by have := h.1; omega)
  refine A8 rfl fun H8 f8 g8 => ?_
  have x := x.al f8
  refine Bo g8 rfl (L := QK t.t line col) rfl (by omega) fun H9 g9 s9 => ?_
  have x := x.st (by omega) s9
  have g0 := (s9 n (by omega)).trans (f8.get g0 (by omega))
  have g1 := (s9 (n + 1) (by omega)).trans (f8.get g1 (by omega))
  have g4 := (s9 n2 (by omega)).trans (f8.get g4 (by omega))
  have hx : DW G H9 (Al (n + 1) n7 n2) c e1 := hx.mono (fun id h => h) fun id h => (s9 id (by have := h.2.1; omega)).trans (f8.same id h.2.1)
  rw [Aw, Au, Aw]
  simp only [Nat.zero_add]
  rw [Ko (m := 2) (o := 3) g9 (by omega) (by show 3 + 2 <= 5; omega), Au, Au, Ag (off := 1) g9 (v := sB t.t.text) rfl, Au, Aj (m := 11) g4 (by omega) hx.len, Au]
  refine AKq (b := n) hf _ H9 (n7 + 1) _ _ _ x.p x.lt (fun j hj => by simp at hj; subst hj; exact ⟨hb, by omega, g0⟩) h2 fun H10 n10 c2 y hx2 => ?_
  have x := x.tr y
  have hn10 := y.le
  have g1 := y.get g1 (by omega) (by omega)
  have g4 := y.get g4 (by omega) (by omega)
  have g9 := y.get g9 (by omega) (by omega)
  rw [Ko (m := 2) (o := 3) g9 (by omega) (by show 3 + 2 <= 5; omega), Au, Ag (off := 1) g9 (v := sB t.t.text) rfl, Au, Aj (m := 11) g4 (by omega) hx.len]
  refine E5 (Ug ..) (E5 (RU _) (E5 hx.vs ?_))
  refine Lh (G := G) (vs := [.agg c, .agg c2]) rfl (by omega) (fun v hv => by simp at hv; rcases hv with rfl | rfl; exact ⟨rfl, hx.len⟩; exact ⟨rfl, hx2.len⟩) fun H11 f11 _ hel => ?_
  have x := x.al f11
  have g1 := f11.get g1 (by omega)
  have g4 := f11.get g4 (by omega)
  refine (show ∀ {P : V -> Prop}, P _ -> AU (BR pF [(0, 1, .c (.int .i64 (.ofNat 16) 0)), (1, 2, .c (.agg [.int .i64 (.ofNat line) 0, .int .i64 (.ofNat col) 0])), (4, 1, .c (sB t.t.text)), (7, 1, .c (.sl n10 0 2 2 11))]) P from fun h => by rw [yx]; exact h) ?_
  refine Bo g4 hx.len rfl (by omega) fun H12 g12 s12 => ?_
  have x := x.st (by omega) s12
  delta EI
  refine gy (A := Al (n + 1) (n10 + 1) n2) (e := .mk 16 0 t.t.text [] false [e1, e2]) x ((s12 (n + 1) (by omega)).trans g1) rfl g12 (by omega) ?_ (fun id h => ⟨by have := h.1; omega, h.2.1, by have := h.1; omega⟩) hk
  refine .mk 16 0 t.t.text [] false line col (hel.same fun id hid => s12 id (by cases DV hid; omega)) (W9 ..) (fun id hid => ⟨by cases DV hid; omega, by cases DV hid; omega, by cases DV hid; omega⟩) ?_
  refine .cons (hx.mono (fun id h => ⟨h.1, by have := h.2.1; omega, h.2.2⟩) fun id h => ?_) (.cons (hx2.mono (fun id h => ⟨by have := h.1; omega, by have := h.2; omega, by have := h.1; omega⟩) fun id h => ?_) .nil)
  ·have h1 := h.1; have h2 := h.2.1
   exact (s12 id h.2.2).trans ((f11.same id (by omega)).trans (y.f.same id (by omega) (by omega)))
  ·have h1 := h.1; have h2 := h.2
   exact (s12 id (by omega)).trans (f11.same id h2)
theorem AIt {un : PM Ex} {f b : Nat} (hf : FnC G pb [] un (.fn CP [.ptr pb 0] [])) : FnC G pb [b] (either 17 Wp (compared un f) f) (.fn ND [] [.ptr b 0]) := by
 intro s H n s' e k h hb hbs hm hk
 rw [dX]
 show Runs F G ND [.ptr b 0] H n k
 refine BZ (s := Eu (GY lfp G)) Lm (by obtain ⟨h, o⟩ := QU BX G; rw [Lm] at h; cases h; exact o) ?_
 show GY lfp G (Runs F G) (.ptr b 0) H n k
 delta GY
 obtain ⟨b1, b2, b3⟩ := one1 hbs
 have x := Fr.refl h hb
 refine A8 rfl fun H1 f1 g1 => ?_
 have x := x.al f1
 have b3 := f1.get b3 b2
 have q : AZ (.ptr b 0) G H1 = some (.ptr pb 0) := Ag b3 rfl
 rw [q, Au, Au, AO0]
 refine ABw (ADY hf) Bxs.nil x.p x.lt hm fun H3 n3 c y hx => ?_
 have hn := y.le
 exact AC6 (x.tr y) (y.get g1 (by omega) hb) rfl (Nat.le_refl _) hx (fun id h => ⟨by have := h.1; omega, h.2, by have := h.1; omega⟩) hk
theorem AIc {rec : PM Ex} {f : Nat} {s s' : S} {H : Heap} {n : Nat} {e : Ex} {k : KV} (hf : FnC G pb [] (unary rec f) (.fn CP [.ptr pb 0] [])) (h : Vm G H pb s) (hb : pb < n) (hm : AA1 rec f s = some (e, s')) (hk : ExK G pb H n s' e k) :
    Runs F G Bf [.ptr pb 0] H n k := by
  refine BZ (s := Eu (IX lfp G)) OQ (by obtain ⟨h, o⟩ := TI BX G; rw [OQ] at h; cases h; exact o) ?_
  show IX lfp G (Runs F G) (.ptr pb 0) H n k
  delta IX
  unfold AA1 at hm
  rw [Option.bind_eq_some_iff] at hm
  obtain ⟨s1, h1, hm⟩ := hm
  rw [Option.bind_eq_some_iff] at hm
  obtain ⟨⟨e1, s2⟩, h2, hm⟩ := hm
  rw [Option.bind_eq_some_iff] at hm
  obtain ⟨s3, h3, hm⟩ := hm
  cases hm
  have x := Fr.refl h hb
  refine AER rfl fun H0 f0 g0 => ?_
  have x := x.al f0
  have g0 : T.get H0 n = some (one [.ptr pb 0]) := g0
  refine A8 rfl fun H1 f1 g1 => ?_
  have x := x.al f1
  have g0 := f1.get g0 (by omega)
  have q : AZ (.ptr n 0) G H1 = some (.ptr pb 0) := Ag g0 rfl
  rw [q, Au]
  refine AAP x.p x.lt h1 fun H2 n2 q y hq1 hq2 hq3 => ?_
  have x := x.tr y
  have g0 := y.get g0 (by omega) hb
  have g1 := y.get g1 (by omega) (by omega)
  rw [qQ]
  have q' : AZ (.ptr n 0) G H2 = some (.ptr pb 0) := Ag g0 rfl
  rw [q', Au, AR1]
  refine ABw (AIt (b := n) hf) (fun j hj => by simp at hj; subst hj; exact ⟨hb, by omega, g0⟩) x.p x.lt h2 fun H3 n3 c y hx => ?_
  have x := x.tr y
  have g1 := y.get g1 (by omega) (by omega)
  have hq3 := y.get hq3 hq2 (by omega)
  have hn3 := y.le
  refine Bo g1 rfl hx.len (by omega) fun H4 g4 s4 => ?_
  have x := x.st (by omega) s4
  have hx : DW G H4 (Rg n2 n3) c e1 := hx.mono (fun id h => h) fun id h => s4 id (by have := h.1; omega)
  refine AKJ x.p x.lt ((s4 q (by omega)).trans hq3) h3 fun H5 n5 y => ?_
  have x := x.tr y
  have g4 := y.get g4 (by omega) (by omega)
  have hn5 := y.le
  rw [BL (m := 11) g4 (by omega) hx.len]
  simp only [go_sem]
  exact hk _ _ _ x (hx.mono (fun id h => ⟨by have := h.1; omega, by have := h.2; omega⟩) fun id h => y.f.same id h.2 (by have := h.1; omega))
end
end Go.PQ
namespace Go.PQ
open Go.Eng
set_option maxRecDepth 100000
theorem ABp {G : AP} {H : Heap} {n id m z bs : Nat} {t : T LV} {w : V} {LS NS : D5} {k : KV} (hz : 0 < z) (hb : T.get H id = some (.arr z m t)) (hid : id < n) (h : elems (.sl id 0 m m z) G H z = some LS)
    (hw : elems w G H z = some NS) (hr : (m + NS.length) * bs <= 140737488355328)
    (hk : ∀ v' H' n', El G H' v' z (LS ++ NS) -> (∀ j, j < n -> T.get H' j = T.get H j) -> n <= n' -> ((∃ l, v' = .sl id 0 l m z) ∨ ∃ l, v' = .Nr n 0 l z /\ n < n') -> k v' H' n') : Y7 z bs (.sl id 0 m m z) w G H n k := by
  unfold Y7
  rw [hw, Wn]
  have h2 : (Bool.rec (motive := fun _ => Option D5) none (CY H id z m 0) (Nat.beq z z) : Option D5) = some LS := h
  rw [ED] at h2
  have h2 : CY H id z m 0 = some LS := h2
  obtain ⟨hl, hat⟩ := OU _ _ h2
  have e0 : AAr (.sl id 0 m m z) G z bs NS H n k = Bool.rec (motive := fun _ => Prop) (FM (CY H id z m 0) fun OS => MF z bs OS NS H n k) (FM (T.get H id) fun b => pz id 0 m m z (m + NS.length) NS H n k b) (Nat.ble (m + NS.length) m) := by
    show Gn (Nat.beq z z) (DK (Nat.add m (len NS)) fun need => Bool.rec (motive := fun _ => Prop) (FM (CY H id z m 0) fun OS => MF z bs OS NS H n k) (FM (T.get H id) fun b => pz id 0 m m z need NS H n k b) (Nat.ble need m)) = _
    rw [ED, ah, BO, len_eq]; rfl
  rw [e0]
  by_cases hN : NS.length = 0
  · have : NS = [] := List.length_eq_zero_iff.1 hN
    subst this
    rw [show Nat.ble (m + ([] : D5).length) m = true by rw [Nat.ble_eq]; exact Nat.le_refl _]
    show FM (T.get H id) (fun b => pz id 0 m m z (m + 0) [] H n k b)
    rw [hb, Wn]
    show Gn (band (Nat.beq z z) (Nat.ble (Nat.add 0 (m + 0)) m)) (k (.sl id 0 (m + 0) m z) (T.set H id (.arr z m t)) n)
    rw [ED, show Nat.ble (Nat.add 0 (m + 0)) m = true by rw [Nat.ble_eq]; show 0 + m <= m; omega]
    have hs : ∀ j, T.get (T.set H id (.arr z m t)) j = T.get H j := fun j => by
      rw [T.Lp]; split
      · rename_i e; subst e; exact hb.symm
      · rfl
    rw [List.append_nil] at hk
    exact hk _ _ _ ((show El G H (.sl id 0 m m z) z LS from ⟨rfl, h⟩).same fun j _ => hs j) (fun j _ => hs j) (Nat.le_refl _) (.inl ⟨_, rfl⟩)
  · rw [show Nat.ble (m + NS.length) m = false by rw [Bool.eq_false_iff]; intro hc; rw [Nat.ble_eq] at hc; omega]
    show FM (CY H id z m 0) (fun OS => MF z bs OS NS H n k)
    rw [h2, Wn]
    show DK (Nat.add (len LS) (len NS)) (fun need => Gn (NG need bs) (DK n fun n => k (.Nr n 0 need z) (T.set H n (.arr z need (EP NS (len LS) (EP LS 0 .e)))) (Nat.succ n)))
    rw [BO, BO, len_eq, len_eq, show NG (Nat.add LS.length NS.length) bs = true from Vg (by rw [hl]; exact hr), ah]
    have e : Nat.add LS.length NS.length = (LS ++ NS).length := by rw [List.length_append]; rfl
    rw [e]
    refine hk _ _ _ (Gr.el (m := n) (.Nr (LS := LS ++ NS) (T.Ap ..) (Nat.le_refl _) (fun i L hi => ?_) (Nat.le_refl _)) hz) (fun j hj => T.Am _ _ (by omega)) (by omega) (.inr ⟨_, rfl, by omega⟩)
    rw [EG, EG]
    by_cases hlt : i < LS.length
    · rw [if_neg (by omega), if_pos ⟨Nat.zero_le _, by omega⟩]
      rw [List.getElem?_append_left hlt] at hi
      exact hi
    · rw [List.getElem?_append_right (by omega)] at hi
      have hlt2 := (List.getElem?_eq_some_iff.1 hi).1
      rw [if_pos ⟨by omega, by omega⟩]; exact hi
theorem zY {G : AP} {H : Heap} {m n z bs : Nat} {v w : V} {LS NS : D5} {k : KV} (h : Gr G H m z v LS) (hm : m <= n) (hn : ∀ id, v.UY = some id -> id < n) (hw : elems w G H z = some NS)
    (hb : (LS.length + NS.length) * bs <= 140737488355328)
    (hk : ∀ v' H', Gr G H' m z v' (LS ++ NS) -> (∀ id, id < n -> v.UY ≠ some id -> T.get H' id = T.get H id) -> (∀ id, v'.UY = some id -> id = n) -> k v' H' (n + 1))
    (hk0 : NS = [] -> k v H n) : Y7 z bs v w G H n k := by
  unfold Y7
  rw [hw, Wn]
  cases h with
  | nil =>
    cases NS with
    | nil => exact hk0 rfl
    | cons a NS =>
      show MF z bs [] (a :: NS) H n k
      unfold MF
      rw [BO, BO, len_eq, len_eq, show NG (Nat.add ([] : D5).length (a :: NS).length) bs = true from Vg hb, ah]
      have e : Nat.add ([] : D5).length (a :: NS).length = (a :: NS).length := Nat.zero_add _
      rw [e]
      refine hk _ _ ?_ (fun id hid _ => T.Am _ _ (by omega)) (fun id hid => by cases hid; rfl)
      refine .Nr (LS := a :: NS) (T.Ap ..) (Nat.le_refl _) (fun i L hi => ?_) hm
      show T.get (EP (a :: NS) 0 .e) i = some L
      have hlt := (List.getElem?_eq_some_iff.1 hi).1
      rw [EG, if_pos ⟨Nat.zero_le _, by omega⟩]; exact hi
  | Nr hg hc ht hid =>
    rename_i id c t
    show Gn (Nat.beq z z) _
    rw [ED, ah]
    cases NS with
    | nil => exact hk0 rfl
    | cons a NS =>
      show FM (T.get H id) (fun b => XB id 0 LS.length z bs (a :: NS) H n k b)
      rw [hg, Wn]
      rw [ABn (Vg hb) hc, show LS.length + (a :: NS).length = (LS ++ a :: NS).length by rw [List.length_append]]
      refine hk _ _ ?_ (fun j hj hne => ?_) (fun j hj => by cases hj; rfl)
      · refine .Nr (LS := LS ++ a :: NS) (T.Ap ..) (Nat.le_refl _) (fun i L hi => ?_) hm
        rw [EG]
        by_cases hlt : i < LS.length
        · rw [if_neg (by omega)]
          rw [List.getElem?_append_left hlt] at hi
          exact ht i L hi
        · rw [List.getElem?_append_right (by omega)] at hi
          have hlt2 := (List.getElem?_eq_some_iff.1 hi).1
          rw [if_pos ⟨by omega, by omega⟩]; exact hi
      · rw [T.Am _ _ (by omega), T.Am _ _ (by intro e; subst e; exact hne rfl)]
def iO (G : AP) (H : Heap) (A : Nat -> Prop) (v : V) (es : List Ex) : Prop := ∃ cs, El G H v 11 cs /\ KH v v = true /\ Xm v = true /\ BP v = [v] /\ (∀ id, v.UY = some id -> A id) /\ QI G H A cs es
def EsK (G : AP) (pb : Nat) (H : Heap) (n : Nat) (s' : S) (es : List Ex) (k : KV) : Prop := ∀ H' n' v, Fr G pb H n H' n' s' -> iO G H' (Rg n n') v es -> es.length <= 201 -> k v H' n'
def AC7 (G : AP) (pb : Nat) (rec : PM Ex) : Prop := ∀ (s : S) (H : Heap) (n : Nat) (s' : S) (e : Ex) (k : KV), Vm G H pb s -> pb < n -> rec s = some (e, s') -> ExK G pb H n s' e k -> Runs F G Bf [.ptr pb 0] H n k
theorem Pz {G : AP} {H : Heap} {m z : Nat} {v : V} {LS : D5} (h : Gr G H m z v LS) : KH v v = true /\ Xm v = true /\ BP v = [v] := by
 cases h with
 | nil => exact ⟨rfl, rfl, rfl⟩
 | Nr => exact ⟨AAF .., rfl, rfl⟩
section
variable {G : AP} {pb : Nat} {H : Heap} {n : Nat} {s s' : S}
theorem lV {w : Bs} {B E : Heap -> Nat -> Prop} (h : Vm G H pb s) (hb : pb < n) (h0 : s.ok = false -> E H n)
    (h1 : s.ok = true -> ∃ b s', Cm w s = some (b, s') /\ ∀ H' n', Fr G pb H n H' n' s' -> bif b then E H' n' else B H' n') :
    Runs F G DR [.ptr pb 0] H n fun v5 H n => Bg v5 true (some (.ptr pb 0)) fun v6 => KO v5 true (Runs F G Aa [v6, sB w] H n) H n fun v7 H n => Bg v5 true (WR v7) fun v8 => AU (Dc v5 v8 (.bool false)) fun v9 => Ac v9 true (B H n) (E H n) := by
  refine AEx h ?_
  cases ho : s.ok with
  | false => simp only [go_sem]; exact h0 ho
  | true =>
    obtain ⟨b, s', h2, h3⟩ := h1 ho
    simp only [go_sem]
    refine Ky h hb h2 fun H' n' y => ?_
    have := h3 H' n' y
    cases b <;> simp only [go_sem, Qe, Bool.not_true, Bool.not_false] <;> exact this
theorem DW.ok {A : Nat -> Prop} {c : LV} {e : Ex} (h : DW G H A c e) : Xm (.agg c) = true /\ (BP (.agg c)).length = 11 := ⟨rfl, h.len⟩
theorem AGX {rec : PM Ex} {f : Nat} {es : List Ex} {k : KV} (hr : AC7 G pb rec) (h : Vm G H pb s) (hb : pb < n) (hm : yM rec f s = some (es, s')) (hk : EsK G pb H n s' es k) : Runs F G O4 [.ptr pb 0] H n k := by
 refine BZ (s := Eu (IL lfp G)) Nv (by obtain ⟨h, o⟩ := UL BX G; rw [Nv] at h; cases h; exact o) ?_
 show IL lfp G (Runs F G) (.ptr pb 0) H n k
 delta IL
 unfold yM at hm
 rw [Option.bind_eq_some_iff] at hm
 obtain ⟨s1, h1, hm⟩ := hm
 refine JC (ws := [JZ]) h hb rfl (by show 1 <= 1000; omega) h1 fun H1 n1 x => ?_
 refine LC (J := fun g q => ∃ H' n' t v cs out, q = (.ptr pb 0, v, H', n') /\ Fr G pb H n H' n' t /\ Own G H' n n' 11 v cs /\ QI G H' (fun id => n <= id /\ id < n' /\ v.UY ≠ some id) cs out /\ (t.ok = true -> out.length <= 200) /\ out.length <= 201 /\ AB5 rec g out t = some (es, s')) ?_ (m := f)
  ⟨H1, n1, s1, .Ae, [], [], rfl, x, dO, .nil, fun _ => Nat.zero_le _, Nat.zero_le _, hm⟩
 rintro I g q ⟨H2, n2, t, v, cs, out, rfl, x, ho, hc, hle, hle2, hm⟩ ih
 show MH lfp G (Runs F G) k I (.ptr pb 0) v H2 n2
 delta MH
 cases g with
 | zero => cases hm
 | succ g =>
  have hm : (bif t.ok then (Cm KG t).bind fun p => bif p.1 then some (out, p.2) else
   (bif decide (0 < out.length) then DI [OZ] p.2 else some p.2).bind fun s1 => (rec s1).bind fun q => AB5 rec g (out ++ [q.1]) (Ia (out.length + 1) q.2)
   else some (out, t)) = some (es, s') := hm
  have hn2 := x.le
  have fin : ∀ {H3 : Heap} {n3 : Nat} {t3 : S}, Fr G pb H2 n2 H3 n3 t3 -> some (out, t3) = some (es, s') -> Iu lfp G (Runs F G) k v H3 n3 := by
   intro H3 n3 t3 y he
   cases he
   delta Iu
   have ho3 := ho.kx y.f x.b
   refine hk _ _ _ (x.tr y) ⟨cs, ho3.el (by omega), (Pz ho3.gr).1, (Pz ho3.gr).2.1, (Pz ho3.gr).2.2, fun id hid => ⟨ho3.ge hid, ho3.lo id hid⟩, ?_⟩ hle2
   exact hc.mono (fun id h => ⟨h.1, by have := h.2.1; have := y.le; omega⟩) fun id h => y.f.same id h.2.1 (by have := h.1; have := x.b; omega)
  rw [APt]
  refine lV x.p x.lt (fun hf => fin (Fr.refl x.p x.lt) (by rw [hf] at hm; exact hm)) fun ht => ?_
  rw [ht, cond_true, Option.bind_eq_some_iff] at hm
  obtain ⟨⟨b, t2⟩, h2, hm⟩ := hm
  refine ⟨b, t2, h2, fun H3 n3 y => ?_⟩
  cases b with
  | true => exact fin y hm
  | false =>
   show AU (lenV v) _
   have hm : ((bif decide (0 < out.length) then DI [OZ] t2 else some t2).bind fun s1 => (rec s1).bind fun q => AB5 rec g (out ++ [q.1]) (Ia (out.length + 1) q.2)) = some (es, s') := hm
   rw [Option.bind_eq_some_iff] at hm
   obtain ⟨t3, h3, hm⟩ := hm
   rw [Option.bind_eq_some_iff] at hm
   obtain ⟨⟨e, t4⟩, h4, hm⟩ := hm
   have hlen := hle ht
   have body : ∀ {H4 : Heap} {n4 : Nat}, Fr G pb H2 n2 H4 n4 t3 -> FD lfp G (Runs F G) k I (.ptr pb 0) v H4 n4 := by
    intro H4 n4 y
    delta FD
    have ho4 := ho.kx y.f x.b
    have hc4 : QI G H4 (fun id => n <= id /\ id < n4 /\ v.UY ≠ some id) cs out := hc.mono (fun id h => ⟨h.1, by have := h.2.1; have := y.le; omega, h.2.2⟩) fun id h => y.f.same id h.2.1 (by have := h.1; have := x.b; omega)
    have x := x.tr y
    refine hr _ _ _ _ _ _ x.p x.lt h4 fun H5 n5 c y hx => ?_
    have hn4 := x.le
    have hpb := x.b
    have x := x.tr y
    have ho5 := ho4.kx y.f hpb
    have hc5 : QI G H5 (fun id => n <= id /\ id < n4 /\ v.UY ≠ some id) cs out := hc4.mono (fun id h => h) fun id h => y.f.same id h.2.1 (by have := h.1; omega)
    have hn5 := y.le
    refine Lh (G := G) (vs := [.agg c]) rfl (by omega) (fun v hv => by simp at hv; subst hv; exact hx.ok) fun H6 f6 _ hel => ?_
    have x := x.al f6
    have ho6 := ho5.kp f6
    refine zY ho6.gr (by omega) ho6.lo hel.2 (by have := hc.len; show (cs.length + 1) * 136 <= _; omega) ?_ (fun h => by cases h)
    intro v' H7 hgr hsame hlo
    have hgr : Gr G H7 n 11 v' (cs ++ [c]) := hgr
    have f7 : Fr G pb H n H7 (n5 + 1 + 1) t4 := ⟨⟨by omega, fun id hid hp => (hsame id (by omega) (fun h => by have := ho6.ge h; omega)).trans (x.f.same id hid hp)⟩, x.p.same fun id hid => hsame id (by omega) (fun h => by have := ho6.ge h; omega), hpb⟩
    have hv4 : ∀ id, v.UY = some id -> id < n4 := ho4.lo
    rw [(hgr.el (by omega)).len, Au, List.length_append, show cs.length + [c].length = out.length + 1 by rw [hc.len]; rfl]
    refine AAN f7.p f7.lt fun H8 n8 y8 => ?_
    have hn8 := y8.le
    refine ih g (_, _, H8, n8) (by omega) ⟨H8, n8, _, v', cs ++ [c], out ++ [e], rfl, f7.tr y8, ?_, ?_, ?_, by rw [List.length_append]; show out.length + 1 <= 201; omega, hm⟩
    ·exact (show Own G H7 n (n5 + 1 + 1) 11 v' (cs ++ [c]) from ⟨hgr, fun id hid => by have := hlo id hid; omega⟩).kx y8.f hpb
    ·refine (hc5.mono (fun id h => ⟨h.1, by have := h.2.1; omega, fun hv => by have := hlo id hv; have := h.2.1; omega⟩) fun id h => ?_).app (.cons (hx.mono (fun id h => ⟨by have := h.1; omega, by have := h.2; omega, fun hv => by have := hlo id hv; have := h.2; omega⟩) fun id h => ?_) .nil)
     ·have h1 := h.1; have h2 := h.2.1
      exact (y8.f.same id (by omega) (by omega)).trans ((hsame id (by omega) h.2.2).trans (f6.same id (by omega)))
     ·have h1 := h.1; have h2 := h.2
      exact (y8.f.same id (by omega) (by omega)).trans ((hsame id (by omega) (fun hv => by have := hv4 id hv; omega)).trans (f6.same id (by omega)))
    ·intro hok
     rw [List.length_append]
     unfold Ia at hok
     cases hd : decide (200 < out.length + 1) with
     | false => have := of_decide_eq_false hd; show out.length + 1 <= 200; omega
     | true =>
      rw [hd] at hok
      exfalso
      unfold GX at hok
      cases ho : t4.ok with
      | false => rw [ho] at hok; simp [ho] at hok
      | true => rw [ho] at hok; cases hok
   have hv3 := (ho.kx y.f x.b).el (by omega)
   rw [hv3.len, Au, hc.len, fZ, Au]
   cases hd : decide (0 < out.length) with
   | false =>
    rw [hd] at h3
    cases h3
    rw [Bl]
    exact body y
   | true =>
    rw [hd] at h3
    have h3 : DI [OZ] t2 = some t3 := h3
    rw [Bv]
    exact JC (ws := [OZ]) y.p (by have := y.le; have := x.lt; omega) rfl (by show 1 <= 1000; omega) h3 fun H4 n4 y4 => body (y.tr y4)
end
end Go.PQ
namespace Go.PQ
open Go.Eng
set_option maxRecDepth 100000
theorem ALV {kd : Nat} {x y : V} {nm : Bs} {id o l : Nat} : BR pF [(0, 1, .c (.int .i64 (.ofNat kd) 0)), (1, 2, .c (.agg [x, y])), (4, 1, .c (sB nm)), (7, 1, .c (.Nr id o l 11))] =
    some (.agg [.int .i64 (.ofNat kd) 0, x, y, .int .i64 (.ofNat 0) 0, sB nm, .str 0 0, .bool false, .Nr id o l 11, .str 0 0, .bool false, .str 0 0]) := rfl
theorem ALt {x y : V} : BR pF [(1, 2, .c (.agg [x, y]))] =
    some (.agg [.int .i64 (.ofNat 0) 0, x, y, .int .i64 (.ofNat 0) 0, .str 0 0, .str 0 0, .bool false, .Ae, .str 0 0, .bool false, .str 0 0]) := rfl
theorem AL {e : Option V} {v : V} {P : V -> Prop} (h : e = some v) (hp : P v) : AU e P := by rw [h]; exact hp
section
variable {G : AP} {pb : Nat} {H : Heap} {n : Nat} {s s' : S} {k : KV}
theorem AKE {t : Ty} (hk : ∀ H', Kp H n H' (n + 1) -> k (.bool (uz t)) H' (n + 1)) : Runs F G X8 [.agg (tyC t)] H n k := by
 refine BZ (s := Eu (LM lfp G)) Qp (by obtain ⟨h, o⟩ := Wi BX G; rw [Qp] at h; cases h; exact o) ?_
 show LM lfp G (Runs F G) (.agg (tyC t)) H n k
 delta LM
 refine au fun H1 f1 g1 => ?_
 have q0 : AZ (.ptr n 0) G H1 = some (sB t.nm) := Ag g1 rfl
 have q1 : AZ (.ptr n 1) G H1 = some (.bool t.arr) := Ag g1 rfl
 have ne0 : ∀ l : Bs, Hz (.one .str) true (sB l) (.str 0 0) = some (.bool (!decide (l = []))) := fun l => ASB l []
 have hk := hk _ f1
 unfold uz at hk
 simp only [go_sem, Nat.reduceAdd, q1, Qe]
 cases ha : t.arr with
 | true =>
  rw [ha] at hk
  simp only [Bool.not_true]
  repeat (first | with_reducible refine sU ?_ | with_reducible refine ABm ?_ | with_reducible refine uD ?_)
  exact hk
 | false =>
  rw [ha] at hk
  simp only [Bool.not_false, go_sem, Nat.reduceAdd, q0, ne0]
  cases hn : t.nm with
  | nil =>
   rw [hn] at hk
   simp only [decide_true, Bool.not_true]
   repeat (first | with_reducible refine sU ?_ | with_reducible refine ABm ?_ | with_reducible refine uD ?_)
   exact hk
  | cons c l =>
   rw [hn] at hk q0
   have hk : k (.bool (great c)) H1 (n + 1) := hk
   unfold great at hk
   have ix : G7 (sB (c :: l)) (.int .i64 (.ofNat 0) 0) = some (.int .u8 (.ofNat c.toNat) 0) := ABx (l := c :: l) (i := 0) (by simp)
   simp only [show decide (c :: l = []) = false from rfl, Bool.not_false, go_sem, Nat.reduceAdd, q0, ix, ZT]
   cases h1 : decide (65 <= c.toNat) with
   | false => rw [h1] at hk; simp only [go_sem]; exact hk
   | true => rw [h1] at hk; simp only [go_sem, Nat.reduceAdd, q0, ix, oI]; exact hk
def APr (G : AP) (pb : Nat) (H : Heap) (n : Nat) (A : Nat -> Prop) (s' : S) (e : Ex) (k : KV) : Prop := ∀ H' n' c, Fr G pb H n H' n' s' -> DW G H' (fun id => A id ∨ Rg n n' id) c e -> k (.agg c) H' n'
theorem qp {H0 H : Heap} {n0 n r : Nat} {c L0 : LV} {e : Ex} {A : Nat -> Prop} (x : Fr G pb H0 n0 H n s') (gr : T.get H r = some (one L0)) (hl : L0.length = 11) (hr : n0 <= r) (he : DW G H (fun id => A id ∨ (Rg n0 n id /\ id ≠ r)) c e) (hA : ∀ id, A id -> id < n0)
    (hk : APr G pb H0 n0 A s' e k) : Bj 11 (.ptr r 0) (.agg c) H n fun _ H n => FM (BQ [.cn (.ptr r 0) 11] G H) fun l => k (E8 l) H n := by
  refine Bo gr hl he.len (by omega) fun H1 g1 s1 => ?_
  rw [BL (m := 11) g1 (by omega) he.len]
  simp only [go_sem]
  exact hk _ _ _ (x.st hr s1) (he.mono (fun id h => h.imp (fun h => h) fun h => h.1) fun id h => s1 id (by rcases h with h | h; have := hA id h; omega; exact h.2))
theorem AFy {rec : PM Ex} {f : Nat} {e e' : Ex} {c : LV} {A : Nat -> Prop} {line col : Nat} (hr : AC7 G pb rec) (hA : ∀ id, A id -> pb < id /\ id < n) (hx : DW G H A c e) (h : Vm G H pb s) (hb : pb < n) (hm : kW rec f e s = some (e', s')) (hk : APr G pb H n A s' e' k) :
    Runs F G Rj [.ptr pb 0, .agg c, .agg [.int .i64 (.ofNat line) 0, .int .i64 (.ofNat col) 0]] H n k := by
  refine BZ (s := ar3 (GZ lfp G)) Lr (by obtain ⟨h, o⟩ := Qb BX G; rw [Lr] at h; cases h; exact o) ?_
  show GZ lfp G (Runs F G) (.ptr pb 0) (.agg c) (.agg [.int .i64 (.ofNat line) 0, .int .i64 (.ofNat col) 0]) H n k
  delta GZ
  unfold kW at hm
  rw [Option.bind_eq_some_iff] at hm
  obtain ⟨⟨b, t⟩, h1, hm⟩ := hm
  have hm : (bif b then some ((.mk 13 0 [] [] false [e] : Ex), t) else (IB 3 t).bind fun q => bif O5 [JZ] q.2 then (yM rec f q.2).bind fun a => some (.mk 8 0 q.1 [] false (e :: a.1), a.2) else some (.mk 7 0 q.1 [] false [e], q.2)) = some (e', s') := hm
  have x := Fr.refl h hb
  refine au fun H1 f1 g1 => ?_
  have x := x.al f1
  refine au fun H2 f2 g2 => ?_
  have x := x.al f2
  have g1 := f2.get g1 (by omega)
  refine A8 rfl fun H3 f3 g3 => ?_
  have x := x.al f3
  have g1 := f3.get g1 (by omega)
  have g2 := f3.get g2 (by omega)
  have hx : DW G H3 A c e := hx.mono (fun id h => h) fun id h => x.f.same id (hA id h).2 (by have := (hA id h).1; omega)
  rw [show V.str 6 114849160783212 = sB kH from rfl]
  refine Ky x.p x.lt h1 fun H4 n4 y => ?_
  have x := x.tr y
  have hn4 := y.le
  have g1 := y.get g1 (by omega) hb
  have g2 := y.get g2 (by omega) (by omega)
  have g3 := y.get g3 (by omega) (by omega)
  have hx : DW G H4 A c e := hx.mono (fun id h => h) fun id h => y.f.same id (by have := (hA id h).2; omega) (by have := (hA id h).1; omega)
  have mkOne : ∀ {H6 : Heap} {m : Nat} {kd : Nat} {nm : Bs}, DW G H6 A c e -> n <= m -> m ≠ n + 1 + 1 -> El G H6 (.sl m 0 1 1 11) 11 [c] -> DW G H6 (fun id => A id ∨ (Rg n (m + 1) id /\ id ≠ n + 1 + 1)) (qc kd 0 nm [] false line col (.sl m 0 1 1 11)) (.mk kd 0 nm [] false [e]) := by
    intro H6 m kd nm hx h1 h2 hel
    exact .mk kd 0 nm [] false line col hel (W9 ..) (fun id hid => .inr (by cases DV hid; exact ⟨⟨h1, by omega⟩, h2⟩)) (.cons (hx.mono (fun id h => .inl h) fun id h => rfl) .nil)
  cases b with
  | true =>
    cases hm
    rw [Bv, Aj (m := 2) g2 (by omega) rfl, Au, Aj (m := 11) g1 (by omega) hx.len, Au]
    refine Lh (G := G) (vs := [.agg c]) rfl (by omega) (fun v hv => by simp at hv; subst hv; exact hx.ok) fun H6 f6 _ hel => ?_
    have x := x.al f6
    have hx : DW G H6 A c e := hx.mono (fun id h => h) fun id h => f6.same id (by have := (hA id h).2; omega)
    refine AL AC2 ?_
    exact qp x (f6.get g3 (by omega)) rfl (by omega) (mkOne (kd := 13) (nm := []) hx (by omega) (by omega) hel) (fun id h => (hA id h).2) hk
  | false =>
    rw [cond_false, Option.bind_eq_some_iff] at hm
    obtain ⟨⟨nm, t2⟩, h2, hm⟩ := hm
    have hm : (bif O5 [JZ] t2 then (yM rec f t2).bind fun a => some ((.mk 8 0 nm [] false (e :: a.1) : Ex), a.2) else some (.mk 7 0 nm [] false [e], t2)) = some (e', s') := hm
    rw [Bl]
    refine XO x.p x.lt h2 fun H5 n5 y => ?_
    have x := x.tr y
    have hn5 := y.le
    have g1 := y.get g1 (by omega) hb
    have g2 := y.get g2 (by omega) (by omega)
    have g3 := y.get g3 (by omega) (by omega)
    have hx : DW G H5 A c e := hx.mono (fun id h => h) fun id h => y.f.same id (by have := (hA id h).2; omega) (by have := (hA id h).1; omega)
    refine fP (ws := [JZ]) x.p x.lt rfl (by show 1 <= 1000; omega) fun H6 n6 y => ?_
    have x := x.tr y
    have hn6 := y.le
    have g1 := y.get g1 (by omega) hb
    have g2 := y.get g2 (by omega) (by omega)
    have g3 := y.get g3 (by omega) (by omega)
    have hx : DW G H6 A c e := hx.mono (fun id h => h) fun id h => y.f.same id (by have := (hA id h).2; omega) (by have := (hA id h).1; omega)
    rw [Qe, Au]
    cases hi : O5 [JZ] t2 with
    | false =>
      rw [hi] at hm
      cases hm
      rw [Bool.not_false, Bv, Aj (m := 2) g2 (by omega) rfl, Au, Aj (m := 11) g1 (by omega) hx.len, Au]
      refine Lh (G := G) (vs := [.agg c]) rfl (by omega) (fun v hv => by simp at hv; subst hv; exact hx.ok) fun H7 f7 _ hel => ?_
      have x := x.al f7
      have hx : DW G H7 A c e := hx.mono (fun id h => h) fun id h => f7.same id (by have := (hA id h).2; omega)
      refine AL yx ?_
      exact qp x (f7.get g3 (by omega)) rfl (by omega) (mkOne (kd := 7) (nm := nm) hx (by omega) (by omega) hel) (fun id h => (hA id h).2) hk
    | true =>
      rw [hi, cond_true, Option.bind_eq_some_iff] at hm
      obtain ⟨⟨es, t3⟩, h3, hm⟩ := hm
      cases hm
      rw [Bool.not_true, Bl, Aj (m := 2) g2 (by omega) rfl, Au, Aj (m := 11) g1 (by omega) hx.len, Au]
      refine Lh (G := G) (vs := [.agg c]) rfl (by omega) (fun v hv => by simp at hv; subst hv; exact hx.ok) fun H7 f7 hb7 hel => ?_
      have x := x.al f7
      have hx : DW G H7 A c e := hx.mono (fun id h => h) fun id h => f7.same id (by have := (hA id h).2; omega)
      have g1 := f7.get g1 (by omega)
      have g2 := f7.get g2 (by omega)
      have g3 := f7.get g3 (by omega)
      refine AGX hr x.p x.lt h3 fun H8 n8 v y hes hle => ?_
      have x := x.tr y
      have hn8 := y.le
      have g1 := y.get g1 (by omega) hb
      have g2 := y.get g2 (by omega) (by omega)
      have g3 := y.get g3 (by omega) (by omega)
      have hx : DW G H8 A c e := hx.mono (fun id h => h) fun id h => y.f.same id (by have := (hA id h).2; omega) (by have := (hA id h).1; omega)
      rw [Aj (m := 2) g2 (by omega) rfl, Au, Aj (m := 11) g1 (by omega) hx.len, Au]
      refine E5 (Ug ..) (E5 hx.vs ?_)
      obtain ⟨cs, he1, he2, he3, he4, he5, he6⟩ := hes
      obtain ⟨t7, hb7⟩ := hb7
      have hel8 : El G H8 (.sl n6 0 1 1 11) 11 [c] := hel.same fun id hid => by cases DV hid; exact y.f.same _ (by omega) (by omega)
      refine ABp (by omega) ((y.f.same _ (by omega) (by omega)).trans hb7) (by omega) hel8.2 he1.2 ?_ ?_
      · have := he6.len; rw [this]; omega
      intro v' H9 n9 hel9 hs9 hn9 hv'
      have x : Fr G pb H n H9 n9 t3 := ⟨⟨by omega, fun id hid hp => (hs9 id (by omega)).trans (x.f.same id hid hp)⟩, x.p.same fun id hid => hs9 id (by omega), hb⟩
      have g2 := (hs9 (n + 1) (by omega)).trans g2
      have g3 := (hs9 (n + 1 + 1) (by omega)).trans g3
      rw [Aj (m := 2) g2 (by omega) rfl, Au]
      refine E5 (Ug ..) ?_
      have hcs : QI G H9 (fun id => A id ∨ (Rg n n9 id /\ id ≠ n + 1 + 1)) ([c] ++ cs) (e :: es) := by
        refine QI.cons (hx.mono (fun id h => .inl h) fun id h => hs9 id (by have := (hA id h).2; omega)) ?_
        exact he6.mono (fun id h => .inr ⟨⟨by have := h.1; omega, by have := h.2; omega⟩, by have := h.1; omega⟩) fun id h => hs9 id h.2
      have fin : ∀ w : V, El G H9 w 11 ([c] ++ cs) -> KH w w = true -> (∀ id, w.UY = some id -> n6 <= id /\ id < n9) -> DW G H9 (fun id => A id ∨ (Rg n n9 id /\ id ≠ n + 1 + 1)) (qc 8 0 nm [] false line col w) (.mk 8 0 nm [] false (e :: es)) := fun w h1 h2 h3 =>
        .mk 8 0 nm [] false line col h1 h2 (fun id hid => .inr ⟨⟨by have := (h3 id hid).1; omega, (h3 id hid).2⟩, by have := (h3 id hid).1; omega⟩) hcs
      rcases hv' with ⟨l, rfl⟩ | ⟨l, rfl, hn9'⟩
      · refine AL yx ?_
        exact qp x g3 rfl (by omega) (fin _ hel9 (W9 ..) fun id hid => by cases DV hid; omega) (fun id h => (hA id h).2) hk
      · refine AL ALV ?_
        exact qp x g3 rfl (by omega) (fin _ hel9 (AAF ..) fun id hid => by cases gK hid; omega) (fun id h => (hA id h).2) hk
end
end Go.PQ
