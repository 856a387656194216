/- Part of a proof: texts PMA PQA PQB PQC PQD PMB PRA PRB PRC PRD PRE PRF PRG of the engine and what is proved with it; nothing is assumed. -/
import Derived.Test.YtcjkfmaoahojeaaDoorWalk
import Derived.Test.YtcjkfmaoahojeaaDoorPlainR
set_option linter.unusedVariables false
set_option linter.unusedSimpArgs false
namespace Go.PQ
open Go.Eng
abbrev Bs := List UInt8
def ABE : Bs := [97, 115]
def iw : Bs := [98, 111, 111, 108]
def Na : Bs := [99, 108, 97, 115, 115]
def yO : Bs := [101, 108, 115, 101]
def dO : Bs := [101, 120, 116, 101, 110, 100, 115]
def jm : Bs := [102, 97, 108, 115, 101]
def Sj : Bs := [102, 105, 101, 108, 100]
def mY : Bs := [105, 102]
def I4 : Bs := [105, 110, 116]
def qI : Bs := [105, 115]
def kK : Bs := [108, 101, 110, 103, 116, 104]
def ABY : Bs := [108, 101, 116]
def Et : Bs := [109, 101, 116, 104, 111, 100]
def ADo : Bs := [110, 101, 119]
def rE : Bs := [110, 117, 108, 108]
def Wp : Bs := [112, 114, 105, 110, 116]
def Cm : Bs := [114, 101, 116, 117, 114, 110]
def O8 : Bs := [115, 116, 97, 116, 105, 99]
def uM : Bs := [116, 104, 105, 115]
def Vx : Bs := [116, 114, 117, 101]
def Qs : Bs := [119, 104, 105, 108, 101]
def Xb : Bs := [61, 61]
def lK : Bs := [33, 61]
def jQ : Bs := [60, 61]
def Wu : Bs := [38, 38]
def qK : Bs := [124, 124]
def Y0 : Bs := [43]
def CG : Bs := [45]
def WG : Bs := [42]
def Qk : Bs := [47]
def jv : Bs := [37]
def Ua : Bs := [60]
def TF : Bs := [61]
def Rx : Bs := [33]
def JY : Bs := [40]
def J8 : Bs := [41]
def kJ : Bs := [91]
def lQ : Bs := [93]
def J7 : Bs := [123]
def m_rc : Bs := [125]
def Bc : Bs := [59]
def Ob : Bs := [44]
def ZT : Bs := [46]
theorem ATj : V.str 2 29537 = sB ABE := rfl
theorem ADJ : V.str 4 1819242338 = sB iw := rfl
theorem AIk : V.str 5 495857003619 = sB Na := rfl
theorem AMQ : V.str 4 1702063205 = sB yO := rfl
theorem AFb : V.str 7 32480047633037413 = sB dO := rfl
theorem AKE : V.str 5 435728179558 = sB jm := rfl
theorem AIe : V.str 5 431315315046 = sB Sj := rfl
theorem ASn : V.str 2 26217 = sB mY := rfl
theorem AGk : V.str 3 7630441 = sB I4 := rfl
theorem ATL : V.str 2 29545 = sB qI := rfl
theorem AH0 : V.str 6 114849160783212 = sB kK := rfl
theorem AO4 : V.str 3 7628140 = sB ABY := rfl
theorem AGP : V.str 6 110429656606061 = sB Et := rfl
theorem AQO : V.str 3 7824750 = sB ADo := rfl
theorem AMP : V.str 4 1819047278 = sB rE := rfl
theorem AJ7 : V.str 5 500068610672 = sB Wp := rfl
theorem AGE : V.str 6 121437875889522 = sB Cm := rfl
theorem AGY : V.str 6 109304575259763 = sB O8 := rfl
theorem ANn : V.str 4 1936287860 = sB uM := rfl
theorem ANM : V.str 4 1702195828 = sB Vx := rfl
theorem AIN : V.str 5 435610544247 = sB Qs := rfl
theorem ASW : V.str 2 15677 = sB Xb := rfl
theorem AVc : V.str 2 15649 = sB lK := rfl
theorem AVR : V.str 2 15676 = sB jQ := rfl
theorem AOv : V.str 2 9766 = sB Wu := rfl
theorem ASM : V.str 2 31868 = sB qK := rfl
theorem ASa : V.str 1 43 = sB Y0 := rfl
theorem ARh : V.str 1 45 = sB CG := rfl
theorem ASp : V.str 1 42 = sB WG := rfl
theorem ARd : V.str 1 47 = sB Qk := rfl
theorem AUo : V.str 1 37 = sB jv := rfl
theorem ASR : V.str 1 60 = sB Ua := rfl
theorem AT6 : V.str 1 61 = sB TF := rfl
theorem AVP : V.str 1 33 = sB Rx := rfl
theorem AXK : V.str 1 40 = sB JY := rfl
theorem AOO : V.str 1 41 = sB J8 := rfl
theorem ASE : V.str 1 91 = sB kJ := rfl
theorem AXy : V.str 1 93 = sB lQ := rfl
theorem AWb : V.str 1 123 = sB J7 := rfl
theorem AOr : V.str 1 125 = sB m_rc := rfl
theorem ASm : V.str 1 59 = sB Bc := rfl
theorem AQ4 : V.str 1 44 = sB Ob := rfl
theorem AUK : V.str 1 46 = sB ZT := rfl
theorem AVE : V.str 0 0 = sB [] := rfl
def Ph : List Bs := [ABE, iw, Na, yO, dO, jm, Sj, mY, I4, qI, kK, ABY, Et, ADo, rE, Wp, Cm, O8, uM, Vx, Qs]
def EJ : List Bs := [Xb, lK, jQ, Wu, qK, Y0, CG, WG, Qk, jv, Ua, TF, Rx, JY, J8, kJ, lQ, J7, m_rc, Bc, Ob, ZT]
def great (c : UInt8) : Bool := decide (65 <= c.toNat) && decide (c.toNat <= 90)
def small (c : UInt8) : Bool := decide (97 <= c.toNat) && decide (c.toNat <= 122)
def digit (c : UInt8) : Bool := decide (48 <= c.toNat) && decide (c.toNat <= 57)
def inner (c : UInt8) : Bool := great c || (small c || (digit c || decide (c.toNat = 95)))
def blank (c : UInt8) : Bool := decide (c.toNat = 32) || (decide (c.toNat = 9) || (decide (c.toNat = 10) || decide (c.toNat = 13)))
def pre (p l : Bs) : Bool := decide (p.length <= l.length) && decide (l.take p.length = p)
def Bz : Bool -> Bs -> Bs
 | _, [] => []
 | true, c :: t => bif decide (c.toNat = 10) then Bz false t else Bz true t
 | false, c :: t => bif blank c then Bz false t else bif pre [47, 47] (c :: t) then Bz true t else c :: t
structure Tok where
 kind : Nat
 text : Bs
 num : Nat
def FM : Tok := ⟨0, [], 0⟩
def X4 : Nat -> Bs -> Option Nat
 | n, [] => some n
 | n, c :: l => bif decide (288230376151711744 < n * 10 + (c.toNat - 48)) then none else X4 (n * 10 + (c.toNat - 48)) l
def XL (t : Tok) : Nat × Tok := bif decide (40 < t.text.length) then (4, FM) else (0, t)
def Gg : Bs -> Nat × Tok
 | [] => (0, FM)
 | c :: l =>
  bif great c then XL ⟨2, (c :: l).takeWhile inner, 0⟩ else
  bif small c then XL ⟨bif decide ((c :: l).takeWhile inner ∈ Ph) then 1 else 3, (c :: l).takeWhile inner, 0⟩ else
  bif digit c then (match X4 0 ((c :: l).takeWhile digit) with | none => (22, FM) | some n => (0, ⟨4, (c :: l).takeWhile digit, n⟩)) else
  match EJ.find? (fun m => pre m (c :: l)) with | none => (20, FM) | some m => (0, ⟨5, m, 0⟩)
def kY : Nat -> Bs -> Nat × List Tok
 | 0, _ => (0, [])
 | f + 1, r =>
  bif decide ((Gg (Bz false r)).1 = 0) then
   bif decide ((Gg (Bz false r)).2.kind = 0) then (0, [(Gg (Bz false r)).2])
   else ((kY f ((Bz false r).drop (Gg (Bz false r)).2.text.length)).1, (Gg (Bz false r)).2 :: (kY f ((Bz false r).drop (Gg (Bz false r)).2.text.length)).2)
  else ((Gg (Bz false r)).1, [])
def vw (s : Bs) : Nat × List Tok := bif decide (65536 < s.length) then (4, []) else kY (s.length + 1) s
end Go.PQ
namespace Go.PQ
open Go.Eng
set_option maxRecDepth 100000
section
variable {G : AP} {H : Heap} {n : Nat} {k : KV}
theorem AD0 {c : UInt8} (hk : k (.bool (great c)) H n) : Runs F G aU [.int .u8 (.ofNat c.toNat) 0] H n k := by
 refine BZ (s := Eu (Tt lfp G)) Yr (by obtain ⟨h, o⟩ := jh BX G; rw [Yr] at h; cases h; exact o) ?_
 show Tt lfp G (Runs F G) (.int .u8 (.ofNat c.toNat) 0) H n k
 delta Tt
 unfold great at hk
 simp only [go_sem, ZW, oM]
 cases h : decide (65 <= c.toNat) <;> rw [h] at hk <;> simp only [go_sem, oM] <;> exact hk
theorem AEM {c : UInt8} (hk : k (.bool (small c)) H n) : Runs F G dF [.int .u8 (.ofNat c.toNat) 0] H n k := by
 refine BZ (s := Eu (Tf lfp G)) Yd (by obtain ⟨h, o⟩ := jg BX G; rw [Yd] at h; cases h; exact o) ?_
 show Tf lfp G (Runs F G) (.int .u8 (.ofNat c.toNat) 0) H n k
 delta Tf
 unfold small at hk
 simp only [go_sem, ZW, oM]
 cases h : decide (97 <= c.toNat) <;> rw [h] at hk <;> simp only [go_sem, oM] <;> exact hk
theorem zi {c : UInt8} (hk : k (.bool (digit c)) H n) : Runs F G Wl [.int .u8 (.ofNat c.toNat) 0] H n k := by
 refine BZ (s := Eu (TN lfp G)) Yz (by obtain ⟨h, o⟩ := jR BX G; rw [Yz] at h; cases h; exact o) ?_
 show TN lfp G (Runs F G) (.int .u8 (.ofNat c.toNat) 0) H n k
 delta TN
 unfold digit at hk
 simp only [go_sem, ZW, oM]
 cases h : decide (48 <= c.toNat) <;> rw [h] at hk <;> simp only [go_sem, oM] <;> exact hk
theorem ADx {c : UInt8} (hk : k (.bool (inner c)) H n) : Runs F G Zx [.int .u8 (.ofNat c.toNat) 0] H n k := by
 refine BZ (s := Eu (Tn lfp G)) YU (by obtain ⟨h, o⟩ := kW BX G; rw [YU] at h; cases h; exact o) ?_
 show Tn lfp G (Runs F G) (.int .u8 (.ofNat c.toNat) 0) H n k
 delta Tn
 unfold inner at hk
 refine AD0 ?_
 cases h1 : great c with
 | true => rw [h1] at hk; simp only [go_sem]; exact hk
 | false =>
  rw [h1] at hk; simp only [go_sem]
  refine AEM ?_
  cases h2 : small c with
  | true => rw [h2] at hk; simp only [go_sem]; exact hk
  | false =>
   rw [h2] at hk; simp only [go_sem]
   refine zi ?_
   cases h3 : digit c with
   | true => rw [h3] at hk; simp only [go_sem]; exact hk
   | false => rw [h3] at hk; simp only [go_sem, Q8]; exact hk
theorem oV {p l : Bs} (hk : k (.bool (pre p l)) H n) : Runs F G KU [sB l, sB p] H n k := by
 refine BZ (s := Qd (Ig lfp G)) OB (by obtain ⟨h, o⟩ := Ti BX G; rw [OB] at h; cases h; exact o) ?_
 show Ig lfp G (Runs F G) (sB l) (sB p) H n k
 delta Ig
 refine BZ (s := Qd (DT lfp G)) FI (by obtain ⟨h, o⟩ := JO BX G; rw [FI] at h; cases h; exact o) ?_
 show DT lfp G (Runs F G) (sB l) (sB p) H n k
 delta DT
 unfold pre at hk
 simp only [go_sem, fV, ZW]
 cases h : decide (p.length <= l.length) with
 | true =>
  have hle := of_decide_eq_true h
  rw [h] at hk; simp only [go_sem, fV, ATG hle, yh]; exact hk
 | false => rw [h] at hk; simp only [go_sem]; exact hk
theorem AAy {l : Bs} {b : Nat} (hb : b < 256) (hk : k (.int .i64 (lH b l 0) 0) H n) : Runs F G O1 [sB l, .int .u8 (.ofNat b) 0] H n k := by
 refine BZ (s := Qd (II lfp G)) OI (by obtain ⟨h, o⟩ := TL BX G; rw [OI] at h; cases h; exact o) ?_
 show II lfp G (Runs F G) (sB l) (.int .u8 (.ofNat b) 0) H n k
 delta II
 refine BZ (s := Qd (DR lfp G)) FK (by obtain ⟨h, o⟩ := JL BX G; rw [FK] at h; cases h; exact o) ?_
 show DR lfp G (Runs F G) (sB l) (.int .u8 (.ofNat b) 0) H n k
 delta DR
 simp only [go_sem, ASs hb]
 exact hk
theorem AJ8 {l : Bs} (hk : k (.bool (decide (l ∈ Ph))) H n) : Runs F G oP [sB l] H n k := by
 refine BZ (s := Eu (UA lfp G)) Yb (by obtain ⟨h, o⟩ := kH BX G; rw [Yb] at h; cases h; exact o) ?_
 show UA lfp G (Runs F G) (sB l) H n k
 delta UA
 have e : decide (l ∈ Ph) = Ph.any fun w => decide (l = w) := by rw [Bool.eq_iff_iff]; simp
 rw [e] at hk
 unfold Ph at hk
 simp only [ATj, ADJ, AIk, AMQ, AFb, AKE, AIe, ASn, AGk, ATL, AH0, AO4, AGP, AQO, AMP, AJ7, AGE, AGY, ANn, ANM, AIN]
 have fin : ∀ b : Bool, k (.bool b) H n -> BI lfp G (Runs F G) k (.bool b) H n := by
  intro b hb
  delta BI
  cases b <;> exact hb
 repeat' (
  rw [yh, Au]
  rw [List.any_cons] at hk
  refine (fun (b : Bool) (P Q : Prop) (h1 : b = true -> P) (h2 : b = false -> Q) => (by cases b; exact h2 rfl; exact h1 rfl : Ac (.bool b) true P Q)) _ _ _ (fun hb => ?_) (fun hb => ?_)
  ·rw [hb] at hk; first | (rw [hb]; exact fin _ hk) | exact hk
  rw [hb, Bool.false_or] at hk)
 exact hk
theorem ADi {a b : Nat} (h : a * b < 9223372036854775808) : B2.ev .mul (.int .i64 (.ofNat a) 0) (.int .i64 (.ofNat b) 0) = some (.int .i64 (.ofNat (a * b)) 0) := by
 show some (V.int .i64 (P7 .i64 (Int.mul (.ofNat a) (.ofNat b))) 0) = _
 have e : Int.mul (.ofNat a) (.ofNat b) = .ofNat (a * b) := rfl
 rw [Qa, e, Vf (by show (-9223372036854775808 : Int) <= ((a * b : Nat) : Int); omega) (by show ((a * b : Nat) : Int) < _; omega)]
theorem ALZ {a b : Nat} (hb : b <= a) (h : a < 256) : B2.ev .sub (.int .u8 (.ofNat a) 0) (.int .u8 (.ofNat b) 0) = some (.int .u8 (.ofNat (a - b)) 0) := by
 show some (V.int .u8 (P7 .u8 (wI (.ofNat a) (Int.neg (.ofNat b)))) 0) = _
 rw [eG]
 have e : Int.ofNat a + Int.neg (Int.ofNat b) = Int.ofNat (a - b) := by show (a : Int) + -(b : Int) = ((a - b : Nat) : Int); omega
 rw [e]
 have : inr .u8 (.ofNat (a - b)) = true := by show Nat.blt (a - b) 256 = true; rw [Nat.blt_eq]; omega
 unfold P7; rw [this]
theorem ADq {q : IntKind} {a : Nat} (h : a < 9223372036854775808) : VL .i64 (.int q (.ofNat a) 0) = some (.int .i64 (.ofNat a) 0) := by
 show some (V.int .i64 (P7 .i64 (.ofNat a)) 0) = _
 rw [Qa, Vf (by show (-9223372036854775808 : Int) <= ((a : Nat) : Int); omega) (by show ((a : Nat) : Int) < _; omega)]
def ANp : Option Nat -> V
 | none => .Gh [.int .i64 (.ofNat 0) 0, .bool false]
 | some m => .Gh [.int .i64 (.ofNat m) 0, .bool true]
theorem AFE {l : Bs} {i : Nat} (h : i < l.length) : (OU l)[i]? = some [V.int .u8 (.ofNat (l[i]).toNat) 0] := by simp [OU, h]
theorem AGt {l : Bs} (hl : ∀ c ∈ l, digit c = true) (hs : l.length <= 65536) (hk : ∀ H', Kp H n H' (n + 1) -> k (ANp (X4 0 l)) H' (n + 1)) : Runs F G jq [sB l] H n k := by
 refine BZ (s := Eu (QV lfp G)) Xm (by obtain ⟨h, o⟩ := fP BX G; rw [Xm] at h; cases h; exact o) ?_
 show QV lfp G (Runs F G) (sB l) H n k
 delta QV
 obtain ⟨R, hR⟩ : ∃ R, X4 0 l = R := ⟨_, rfl⟩
 rw [hR] at hk
 refine AJH (G := G) fun H1 v f1 hv => ?_
 simp only [go_sem, hv.len, show (OU l).length = l.length from List.length_map ..]
 refine SN (N := l.length) (J := fun j q => ∃ a, q = (.int .i64 (.ofNat a) 0, v, .int .i64 (.ofNat l.length) 0, .int .i64 (.ofNat j) 0, H1, n + 1) /\ a <= 288230376151711744 /\ X4 a (l.drop j) = R) ?_ ?_ ⟨0, rfl, by omega, hR⟩
 ·rintro I j q hlt ⟨a, rfl, ha, he⟩ ih
  show MQ lfp G (Runs F G) k I (.int .i64 (.ofNat a) 0) v (.int .i64 (.ofNat l.length) 0) (.int .i64 (.ofNat j) 0) H1 (n + 1)
  delta MQ
  obtain ⟨p, hp, hld⟩ := hv.at (AFE hlt)
  rw [List.drop_eq_getElem_cons hlt] at he
  have hd := hl _ (List.getElem_mem hlt)
  generalize l[j] = c at hld he hd
  simp only [digit, Bool.and_eq_true, decide_eq_true_eq] at hd
  unfold X4 at he
  simp only [go_sem, Pz, hlt, decide_true, hp, Zw hld, ADi (show a * 10 < 9223372036854775808 by omega), ALZ hd.1 (show c.toNat < 256 by omega), ADq (show c.toNat - 48 < 9223372036854775808 by omega), La (show a * 10 + (c.toNat - 48) < 9223372036854775808 by omega), fZ]
  cases h : decide (288230376151711744 < a * 10 + (c.toNat - 48)) with
  | true => rw [h] at he; simp only [go_sem]; have := hk _ f1; rw [<- he] at this; exact this
  | false =>
   rw [h] at he; simp only [go_sem, La (show j + 1 < 9223372036854775808 by omega)]
   exact ih _ ⟨_, rfl, by simpa using h, he⟩
 ·rintro I q ⟨a, rfl, ha, he⟩
  show MQ lfp G (Runs F G) k I (.int .i64 (.ofNat a) 0) v (.int .i64 (.ofNat l.length) 0) (.int .i64 (.ofNat l.length) 0) H1 (n + 1)
  delta MQ
  rw [List.drop_eq_nil_of_le (Nat.le_refl _)] at he
  simp only [go_sem, Pz, Nat.lt_irrefl, decide_false]
  delta Ue
  have := hk _ f1
  rw [<- he] at this
  exact this
end
end Go.PQ
namespace Go.PQ
open Go.Eng
set_option maxRecDepth 100000
def LAt (H : Heap) (lb : Nat) (s : Bs) (a : Nat) : Prop := ∃ line col : Nat, 1 <= line /\ 1 <= col /\ line <= a + 1 /\ col <= a + 1 /\
 T.get H lb = some (one [sB s, .int .i64 (.ofNat a) 0, .int .i64 (.ofNat line) 0, .int .i64 (.ofNat col) 0])
theorem AFv (q r : IntKind) (a b : Int) (z w : V) : BR [z, w] [(0, 1, .c (.int q a 0)), (1, 1, .c (.int r b 0))] = some (.agg [.int q a 0, .int r b 0]) := rfl
section
variable {G : AP} {H : Heap} {n lb a : Nat} {s : Bs} {k : KV}
theorem LAt.kp {H' : Heap} {n' : Nat} (h : LAt H lb s a) (hl : lb < n) (f : Kp H n H' n') : LAt H' lb s a := by
 obtain ⟨line, col, h1, h2, h3, h4, hg⟩ := h
 exact ⟨line, col, h1, h2, h3, h4, f.get hg hl⟩
theorem ACn {m : Nat} (h : LAt H lb s a) (hm : a + m <= s.length) (hs : s.length <= 65536) (hk : ∀ H', Kx lb H n H' n -> LAt H' lb s (a + m) -> k (.Gh []) H' n) :
    Runs F G I5 [.ptr lb 0, .int .i64 (.ofNat m) 0] H n k := by
  refine BZ (s := Qd (LQ lfp G)) QX (by obtain ⟨h, o⟩ := WY BX G; rw [QX] at h; cases h; exact o) ?_
  show LQ lfp G (Runs F G) (.ptr lb 0) (.int .i64 (.ofNat m) 0) H n k
  delta LQ
  refine SN (N := m) (J := fun j q => ∃ H', q = (.ptr lb 0, .int .i64 (.ofNat m) 0, .int .i64 (.ofNat j) 0, H', n) /\ Kx lb H n H' n /\ LAt H' lb s (a + j)) ?_ ?_ ⟨H, rfl, Kx.refl .., h⟩
  · rintro I j q hlt ⟨H1, rfl, f1, line, col, h1, h2, h3, h4, hg⟩ ih
    show IB lfp G (Runs F G) k I (.ptr lb 0) (.int .i64 (.ofNat m) 0) (.int .i64 (.ofNat j) 0) H1 n
    delta IB
    simp only [go_sem, Pz, hlt, decide_true, Nat.reduceAdd, Ah (off := 3) hg (v := .int .i64 (.ofNat col) 0) rfl, La (show col + 1 < 9223372036854775808 by omega)]
    refine D8 hg rfl rfl (by omega) (by show 3 + 1 <= 4; omega) fun H2 hg2 s2 => ?_
    have hg2 : T.get H2 lb = some (one [sB s, .int .i64 (.ofNat (a + j)) 0, .int .i64 (.ofNat line) 0, .int .i64 (.ofNat (col + 1)) 0]) := hg2
    simp only [go_sem, Nat.reduceAdd, Ah (off := 0) hg2 (v := sB s) rfl, Ah (off := 1) hg2 (v := .int .i64 (.ofNat (a + j)) 0) rfl, ABJ (show a + j < s.length by omega), Q8]
    have f2 : Kx lb H n H2 n := f1.trans ⟨Nat.le_refl _, fun id _ hb => s2 id hb⟩
    have fin : ∀ (H3 : Heap) (line col : Nat), Kx lb H n H3 n -> 1 <= line -> 1 <= col -> line <= a + j + 2 -> col <= a + j + 2 ->
        T.get H3 lb = some (one [sB s, .int .i64 (.ofNat (a + j)) 0, .int .i64 (.ofNat line) 0, .int .i64 (.ofNat col) 0]) ->
        G7 lfp G (Runs F G) k I (.ptr lb 0) (.int .i64 (.ofNat m) 0) (.int .i64 (.ofNat j) 0) H3 n := by
      intro H3 line col f3 h1 h2 h3 h4 hg3
      delta G7
      simp only [go_sem, Nat.reduceAdd, Ah (off := 1) hg3 (v := .int .i64 (.ofNat (a + j)) 0) rfl, La (show a + j + 1 < 9223372036854775808 by omega)]
      refine D8 hg3 rfl rfl (by omega) (by show 1 + 1 <= 4; omega) fun H4 hg4 s4 => ?_
      simp only [go_sem, La (show j + 1 < 9223372036854775808 by omega)]
      exact ih _ ⟨_, rfl, f3.trans ⟨Nat.le_refl _, fun id _ hb => s4 id hb⟩, line, col, h1, h2, by omega, by omega, hg4⟩
    cases hc : decide ((s[a + j]).toNat = 10) with
    | true =>
      simp only [go_sem, Nat.reduceAdd, Ah (off := 2) hg2 (v := .int .i64 (.ofNat line) 0) rfl, La (show line + 1 < 9223372036854775808 by omega), AFv]
      refine D8 hg2 rfl rfl (by omega) (by show 2 + 2 <= 4; omega) fun H3 hg3 s3 => ?_
      exact fin H3 (line + 1) 1 (f2.trans ⟨Nat.le_refl _, fun id _ hb => s3 id hb⟩) (by omega) (by omega) (by omega) (by omega) hg3
    | false =>
      simp only [go_sem]
      exact fin H2 line (col + 1) f2 (by omega) (by omega) (by omega) (by omega) hg2
  · rintro I q ⟨H1, rfl, f1, h⟩
    show IB lfp G (Runs F G) k I (.ptr lb 0) (.int .i64 (.ofNat m) 0) (.int .i64 (.ofNat m) 0) H1 n
    delta IB
    simp only [go_sem, Pz, Nat.lt_irrefl, decide_false]
    exact hk _ f1 h
def toEnd : Bs -> Nat
 | [] => 0
 | c :: l => bif decide (c.toNat = 10) then 0 else toEnd l + 1
theorem AAx : ∀ l : Bs, toEnd l <= l.length
 | [] => Nat.le_refl _
 | c :: l => by
  have := AAx l
  unfold toEnd
  cases decide (c.toNat = 10) <;> simp [this]
theorem xC : ∀ (l : Bs) (i : Nat), lH 10 l i = if toEnd l = l.length then -1 else ((i + toEnd l : Nat) : Int)
 | [], i => rfl
 | c :: l, i => by
  have ih := xC l (i + 1)
  rw [show lH 10 (c :: l) i = bif decide (c.toNat = 10) then .ofNat i else lH 10 l (i + 1) from rfl, show toEnd (c :: l) = bif decide (c.toNat = 10) then 0 else toEnd l + 1 from rfl]
  cases h : decide (c.toNat = 10) with
  | true => simp
  | false =>
   simp only [cond_false, ih, List.length_cons, Nat.add_right_cancel_iff]
   split
   ·rfl
   ·congr 1; omega
theorem ABr : ∀ l : Bs, Bz true l = Bz false (l.drop (toEnd l))
 | [] => rfl
 | c :: l => by
  rw [show Bz true (c :: l) = bif decide (c.toNat = 10) then Bz false l else Bz true l from rfl, show toEnd (c :: l) = bif decide (c.toNat = 10) then 0 else toEnd l + 1 from rfl]
  cases h : decide (c.toNat = 10) with
  | true =>
   have hb : blank c = true := by simp only [blank, h, Bool.or_true, Bool.true_or]
   simp [Bz, hb]
  | false => simp only [cond_false, List.drop_succ_cons]; exact ABr l
theorem bU : ∀ (b : Bool) (l : Bs), (Bz b l).length <= l.length
 | _, [] => by simp [Bz]
 | true, c :: l => by
  rw [show Bz true (c :: l) = bif decide (c.toNat = 10) then Bz false l else Bz true l from rfl]
  have h1 := bU false l; have h2 := bU true l
  cases decide (c.toNat = 10) <;> simp <;> omega
 | false, c :: l => by
  rw [show Bz false (c :: l) = bif blank c then Bz false l else bif pre [47, 47] (c :: l) then Bz true l else c :: l from rfl]
  have h1 := bU false l; have h2 := bU true l
  cases blank c <;> cases pre [47, 47] (c :: l) <;> simp <;> omega
theorem APr : V.str 2 12079 = sB [47, 47] := rfl
theorem ALw (h : LAt H lb s a) (ha : a <= s.length) (hs : s.length <= 65536) (hk : ∀ H' a', Kx lb H n H' n -> LAt H' lb s a' -> a' <= s.length -> s.drop a' = Bz false (s.drop a) -> k (.Gh []) H' n) :
    Runs F G Xy [.ptr lb 0] H n k := by
  refine BZ (s := Eu (Kz lfp G)) Qi (by obtain ⟨h, o⟩ := XC BX G; rw [Qi] at h; cases h; exact o) ?_
  show Kz lfp G (Runs F G) (.ptr lb 0) H n k
  delta Kz
  obtain ⟨R, hR⟩ : ∃ R, Bz false (s.drop a) = R := ⟨_, rfl⟩
  rw [hR] at hk
  refine LG (J := fun m q => ∃ H' a', m = s.length - a' /\ q = (.ptr lb 0, H', n) /\ Kx lb H n H' n /\ LAt H' lb s a' /\ a' <= s.length /\ Bz false (s.drop a') = R) ?_ (m := s.length - a) ⟨H, a, rfl, rfl, Kx.refl .., h, ha, hR⟩
  rintro I m q ⟨H1, b, rfl, rfl, f1, h1, hb, hR⟩ ih
  show O4 lfp G (Runs F G) k I (.ptr lb 0) H1 n
  delta O4
  obtain ⟨line, col, _, _, _, _, hg⟩ := id h1
  have e0 : AZ (.ptr lb 0) G H1 = some (sB s) := Ah hg rfl
  have e1 : AZ (.ptr lb 1) G H1 = some (.int .i64 (.ofNat b) 0) := Ah hg rfl
  simp only [go_sem, Nat.reduceAdd, e0, e1, fV, Pz]
  rcases Nat.lt_or_ge b s.length with hlt | hge
  · simp only [hlt, decide_true, go_sem, Nat.reduceAdd, e0, e1, ABJ hlt, Q8]
    have hR' := hR
    rw [List.drop_eq_getElem_cons hlt, show ∀ (c : UInt8) (l : Bs), Bz false (c :: l) = bif blank c then Bz false l else bif pre [47, 47] (c :: l) then Bz true l else c :: l from fun _ _ => rfl, <- List.drop_eq_getElem_cons hlt] at hR'
    have step1 : blank s[b] = true -> Runs F G I5 [.ptr lb 0, .int .i64 (.ofNat 1) 0] H1 n fun _ H n => I (.ptr lb 0, H, n) := by
      intro hbl
      rw [hbl] at hR'
      refine ACn h1 (by omega) hs fun H2 f2 h2 => ih (s.length - (b + 1)) _ (by omega) ⟨H2, b + 1, rfl, rfl, f1.trans f2, h2, by omega, hR'⟩
    have fin : ∀ m', b + m' <= s.length -> 0 < m' -> Bz false (s.drop (b + m')) = R -> EL lfp G (Runs F G) k I (.ptr lb 0) (.int .i64 (.ofNat m') 0) H1 n := by
      intro m' h2 h3 h4
      delta EL
      exact ACn h1 h2 hs fun H2 f2 h2 => ih (s.length - (b + m')) _ (by omega) ⟨H2, b + m', rfl, rfl, f1.trans f2, h2, by omega, h4⟩
    have step2 : blank s[b] = false -> Runs F G KU [sB (s.drop b), sB [47, 47]] H1 n fun v35 H n => Ac v35 true (AU (BF (.ptr lb 0)) fun v36=>
        AU (AX 0 v36) fun v37=> AU (AZ v37 G H) fun v38=> AU (BF (.ptr lb 0)) fun v39=> AU (AX 1 v39) fun v40=> AU (AZ v40 G H) fun v41=> AU (Rw v38 E0 (some (.c v41)) none) fun v42=>
        Runs F G O1 [v42, (.int .u8 (.ofNat 10) 0)] H n fun v43 H n=>
        AU (B2.ev .lss v43 (.int .i64 (.ofNat 0) 0)) fun v46=>
        Ac v46 true (AU (BF (.ptr lb 0)) fun v47=> AU (AX 0 v47) fun v48=> AU (AZ v48 G H) fun v49=> AU (YJ v49) fun v50=> AU (BF (.ptr lb 0)) fun v51=> AU (AX 1 v51) fun v52=> AU (AZ v52 G H) fun v53=>
        AU (B2.ev .sub v50 v53) fun v54=> EL lfp G (Runs F G) k I (.ptr lb 0) v54 H n) (EL lfp G (Runs F G) k I (.ptr lb 0) v43 H n)) (k (.Gh []) H n) := by
      intro hbl
      rw [hbl] at hR'
      refine oV ?_
      cases hp : pre [47, 47] (s.drop b) with
      | false =>
        rw [hp] at hR'
        simp only [go_sem]
        exact hk _ _ f1 h1 hb hR'
      | true =>
        rw [hp, cond_false, cond_true, ABr, List.drop_drop] at hR'
        have hne : (s[b]).toNat ≠ 10 := by
          intro e
          simp [blank, e] at hbl
        simp only [go_sem, Nat.reduceAdd, e0, e1, ACi hb]
        refine AAy (by omega) ?_
        have hte : toEnd (s.drop b) = toEnd (s.drop (b + 1)) + 1 := by
          rw [List.drop_eq_getElem_cons hlt, show toEnd (s[b] :: s.drop (b + 1)) = bif decide ((s[b]).toNat = 10) then 0 else toEnd (s.drop (b + 1)) + 1 from rfl, decide_eq_false hne]; rfl
        have hle := AAx (s.drop b)
        rw [xC]
        rw [List.length_drop] at hle ⊢
        rw [show b + 1 + toEnd (s.drop (b + 1)) = b + toEnd (s.drop b) by omega] at hR'
        split
        · rename_i he
          have e : B2.ev .lss (.int .i64 (-1) 0) (.int .i64 (.ofNat 0) 0) = some (.bool true) := rfl
          simp only [go_sem, e, Nat.reduceAdd, e0, e1, fV, x9 hb (show s.length < 9223372036854775808 by omega)]
          rw [he] at hR'
          exact fin _ (by omega) (by omega) hR'
        · rw [Nat.zero_add]
          have e : B2.ev .lss (.int .i64 ((toEnd (s.drop b) : Nat) : Int) 0) (.int .i64 (.ofNat 0) 0) = some (.bool false) := by
            refine (Pz .i64 _ _).trans ?_
            simp
          simp only [go_sem, e]
          exact fin (toEnd (s.drop b)) (by omega) (by omega) hR'
    cases c1 : decide ((s[b]).toNat = 32) with
    | true => simp only [go_sem]; exact step1 (by simp [blank, c1])
    | false =>
      simp only [go_sem, Q8]
      cases c2 : decide ((s[b]).toNat = 9) with
      | true => simp only [go_sem]; exact step1 (by simp [blank, c2])
      | false =>
        simp only [go_sem, Q8]
        cases c3 : decide ((s[b]).toNat = 10) with
        | true => simp only [go_sem]; exact step1 (by simp [blank, c3])
        | false =>
          simp only [go_sem, Q8]
          cases c4 : decide ((s[b]).toNat = 13) with
          | true => simp only [go_sem]; exact step1 (by simp [blank, c4])
          | false =>
            simp only [go_sem, Nat.reduceAdd, e0, e1, ACi hb, APr]
            exact step2 (by simp [blank, c1, c2, c3, c4])
  · have : b = s.length := by omega
    subst this
    simp only [Nat.lt_irrefl, decide_false, go_sem]
    rw [List.drop_eq_nil_of_le (Nat.le_refl _), show Bz false [] = [] from rfl] at hR
    exact hk _ _ f1 h1 (Nat.le_refl _) (by rw [List.drop_eq_nil_of_le (Nat.le_refl _)]; exact hR)
theorem AB4 (g : UInt8 -> Bool) : ∀ l : Bs, (l.takeWhile g).length <= l.length
 | [] => Nat.le_refl _
 | c :: l => by have := AB4 g l; rw [List.takeWhile_cons]; split <;> simp <;> omega
theorem ADn (g : UInt8 -> Bool) : ∀ l : Bs, l.take (l.takeWhile g).length = l.takeWhile g
  | [] => rfl
  | c :: l => by rw [List.takeWhile_cons]; split; · simp [ADn g l]
                 · rfl
def AMN (G : AP) (f : Nat) (g : UInt8 -> Bool) : Prop := ∀ (c : UInt8) (H : Heap) (n : Nat) (k : KV), k (.bool (g c)) H n -> Runs F G f [.int .u8 (.ofNat c.toNat) 0] H n k
theorem AF8 {f : Nat} {g : UInt8 -> Bool} (hf : AMN G f g) (h : LAt H lb s a) (ha : a <= s.length) (hs : s.length <= 65536) (hk : k (sB ((s.drop a).takeWhile g)) H n) :
    Runs F G PY [.ptr lb 0, .fn f [] []] H n k := by
  refine BZ (s := Qd (MJ lfp G)) SA (by obtain ⟨h, o⟩ := X5 BX G; rw [SA] at h; cases h; exact o) ?_
  show MJ lfp G (Runs F G) (.ptr lb 0) (.fn f [] []) H n k
  delta MJ
  obtain ⟨line, col, _, _, _, _, hg⟩ := id h
  have e0 : AZ (.ptr lb 0) G H = some (sB s) := Ah hg rfl
  have e1 : AZ (.ptr lb 1) G H = some (.int .i64 (.ofNat a) 0) := Ah hg rfl
  refine LG (J := fun m q => ∃ j, m = s.length - (a + j) /\ q = (.ptr lb 0, .fn f [] [], .int .i64 (.ofNat j) 0, H, n) /\ a + j <= s.length /\ j + ((s.drop (a + j)).takeWhile g).length = ((s.drop a).takeWhile g).length) ?_ (m := s.length - a)
    ⟨0, rfl, rfl, ha, by simp⟩
  rintro I m q ⟨j, rfl, rfl, hj, he⟩ ih
  show O5 lfp G (Runs F G) k I (.ptr lb 0) (.fn f [] []) (.int .i64 (.ofNat j) 0) H n
  delta O5
  have fin : j = ((s.drop a).takeWhile g).length -> Ls lfp G (Runs F G) k (.ptr lb 0) (.int .i64 (.ofNat j) 0) H n := by
    intro hj2
    delta Ls
    simp only [go_sem, Nat.reduceAdd, e0, e1, La (show a + j < 9223372036854775808 by omega), AGa (show a <= a + j by omega) hj]
    rw [show a + j - a = j by omega, hj2, ADn]
    exact hk
  simp only [go_sem, Nat.reduceAdd, e0, e1, fV, La (show a + j < 9223372036854775808 by omega), Pz]
  rcases Nat.lt_or_ge (a + j) s.length with hlt | hge
  · simp only [hlt, decide_true, go_sem, Nat.reduceAdd, e0, e1, La (show a + j < 9223372036854775808 by omega), ABJ hlt, dP]
    rw [List.drop_eq_getElem_cons hlt, List.takeWhile_cons] at he
    refine hf _ _ _ _ ?_
    cases hc : g s[a + j] with
    | true =>
      rw [hc] at he
      simp only [go_sem, La (show j + 1 < 9223372036854775808 by omega)]
      exact ih (s.length - (a + (j + 1))) _ (by omega) ⟨j + 1, rfl, rfl, by omega, by rw [show a + (j + 1) = a + j + 1 by omega, <- he]; simp; omega⟩
    | false =>
      rw [hc] at he
      simp only [go_sem]
      exact fin (by simpa using he)
  · have : ¬ a + j < s.length := by omega
    simp only [this, decide_false, go_sem]
    rw [List.drop_eq_nil_of_le hge] at he
    exact fin (by simpa using he)
end
end Go.PQ
namespace Go.PQ
open Go.Eng
set_option maxRecDepth 100000
def QH (t : Tok) (line col : Nat) : LV := [.int .i64 (.ofNat t.kind) 0, sB t.text, .int .i64 (.ofNat t.num) 0, .int .i64 (.ofNat line) 0, .int .i64 (.ofNat col) 0]
def mD (t : Tok) : Nat × Tok := bif decide (t.kind = 0) then (20, FM) else bif decide (40 < t.text.length) && !decide (t.kind = 4) then (4, FM) else (0, t)
def Qm (G : AP) : Prop := G 0 0 22 = some (EJ.map sB)
def AAz (k : KV) (H : Heap) (n lb : Nat) (s : Bs) (a : Nat) (r : Nat × Tok) : Prop := ∀ (H' : Heap) (n' : Nat) (c : LV), Kx lb H n H' n' -> LAt H' lb s (a + r.2.text.length) -> c.length = 5 -> (r.1 = 0 -> ∃ line col, 1 <= line /\ 1 <= col /\ c = QH r.2 line col) ->
 k (.Gh [.agg c, .int .i64 (.ofNat r.1) 0]) H' n'
section
variable {G : AP} {H : Heap} {n lb a : Nat} {s : Bs} {k : KV}
theorem zM {z0 z1 z2 z3 z4 : V} : BR [z0, z1, z2, z3, z4] [] = some (.agg [z0, z1, z2, z3, z4]) := rfl
theorem AIw {z0 z1 z2 z3 z4 a b : V} : BR [z0, z1, z2, z3, z4] [(3, 2, .c (.agg [a, b]))] = some (.agg [z0, z1, z2, a, b]) := rfl
theorem AAp {H0 : Heap} {n0 p q : Nat} {t : Tok} {line col : Nat} {z0 z1 z2 z3 z4 : V} (f0 : Kx lb H0 n0 H n) (hp : T.get H p = some (one [z0, z1, z2, z3, z4])) (hq : T.get H q = some (one (QH t line col))) (hpq : p ≠ q) (hpl : p ≠ lb) (hql : q ≠ lb)
    (hp0 : n0 <= p) (hpn : p < n) (hqn : q < n) (h : LAt H lb s a) (ha : a + t.text.length <= s.length) (hs : s.length <= 65536) (h1 : 1 <= line) (h2 : 1 <= col) (hk : AAz k H0 n0 lb s a (mD t)) :
    Cc lfp G (Runs F G) k (.ptr lb 0) (.ptr p 0) (.ptr q 0) H n := by
  delta Cc
  have q0 : AZ (.ptr q 0) G H = some (.int .i64 (.ofNat t.kind) 0) := Ah hq rfl
  have q1 : AZ (.ptr q 1) G H = some (sB t.text) := Ah hq rfl
  unfold mD at hk
  simp only [go_sem, Nat.reduceAdd, q0, Q8]
  have zz : ∀ e : Nat, AAz k H0 n0 lb s a (e, FM) -> e ≠ 0 -> Bj 5 (.ptr p 0) (.agg [.int .i64 (.ofNat 0) 0, .str 0 0, .int .i64 (.ofNat 0) 0, .int .i64 (.ofNat 0) 0, .int .i64 (.ofNat 0) 0]) H n fun _ H n =>
      FN (BQ [.cn (.ptr p 0) 5, .t (.int .i64 (.ofNat e) 0)] G H) fun l => k (FB l) H n := by
    intro e hk he
    rw [VO (m := 5) hp (by omega) rfl rfl, BL (m := 5) (T.Ap ..) (by omega) rfl]
    simp only [go_sem]
    obtain ⟨line, col, x1, x2, x3, x4, hg⟩ := h
    refine hk _ _ _ ⟨f0.le, fun id hid hb => ?_⟩ ⟨line, col, x1, x2, x3, x4, ?_⟩ rfl (fun h => absurd h he)
    · rw [T.Am _ _ (by omega)]; exact f0.same id hid hb
    · rw [T.Am _ _ hpl]; exact hg
  cases c1 : decide (t.kind = 0) with
  | true =>
    rw [c1] at hk
    simp only [go_sem, zM]
    exact zz 20 hk (by omega)
  | false =>
    rw [c1] at hk
    simp only [go_sem, Nat.reduceAdd, q1, fV, fZ]
    have fin : AAz k H0 n0 lb s a (0, t) -> Runs F G I5 [.ptr lb 0, .int .i64 (.ofNat t.text.length) 0] H n fun _ H n => AU (BH 5 (.ptr q 0) G H) fun v45 =>
        Bj 5 (.ptr p 0) v45 H n fun v46 H n => FN (BQ [.cn (.ptr p 0) 5, .t (.int .i64 (.ofNat 0) 0)] G H) fun l => k (FB l) H n := by
      intro hk
      refine ACn h ha hs fun H2 f2 h2 => ?_
      have hq2 : T.get H2 q = _ := f2.get hq hqn hql
      have hp2 : T.get H2 p = _ := f2.get hp hpn hpl
      rw [Aj (m := 5) hq2 (by omega) rfl, Au, VO (m := 5) hp2 (by omega) rfl rfl, BL (m := 5) (T.Ap ..) (by omega) rfl]
      simp only [go_sem]
      have f3 := f0.trans f2
      obtain ⟨l1, c1, x1, x2, x3, x4, hg⟩ := h2
      refine hk _ _ _ ⟨f3.le, fun id hid hb => ?_⟩ ⟨l1, c1, x1, x2, x3, x4, ?_⟩ rfl fun _ => ⟨line, col, h1, h2, rfl⟩
      · rw [T.Am _ _ (by omega)]; exact f3.same id hid hb
      · rw [T.Am _ _ hpl]; exact hg
    cases c2 : decide (40 < t.text.length) with
    | false =>
      rw [c2] at hk
      simp only [go_sem, Nat.reduceAdd, q1, fV]
      exact fin hk
    | true =>
      rw [c2] at hk
      simp only [go_sem, Nat.reduceAdd, q0, eY]
      cases c3 : decide (t.kind = 4) with
      | true =>
        rw [c3] at hk
        simp only [Bool.not_true, go_sem, Nat.reduceAdd, q1, fV]
        exact fin hk
      | false =>
        rw [c3] at hk
        simp only [Bool.not_false, go_sem, zM]
        exact zz 4 hk (by omega)
theorem KW {m o id : Nat} {L : LV} (h : T.get H id = some (one L)) (hm : 0 < m) (hl : o + m <= L.length) : BH m (.ptr id o) G H = some (.agg ((L.drop o).take m)) := AEb h hm hl
theorem AMt (hG : Qm G) (h : LAt H lb s a) (ha : a <= s.length) (hs : s.length <= 65536) (hlb : lb < n) (hk : AAz k H n lb s a (Gg (s.drop a))) :
    Runs F G YG [.ptr lb 0] H n k := by
  refine BZ (s := Eu (Kw lfp G)) QT (by obtain ⟨h, o⟩ := XD BX G; rw [QT] at h; cases h; exact o) ?_
  show Kw lfp G (Runs F G) (.ptr lb 0) H n k
  delta Kw
  obtain ⟨line, col, x1, x2, x3, x4, hg⟩ := id h
  have hne : lb ≠ n := by omega
  have hne1 : lb ≠ n + 1 := by omega
  have d0 : AZ (.ptr lb 0) G H = some (sB s) := Ah hg rfl
  have d1 : AZ (.ptr lb 1) G H = some (.int .i64 (.ofNat a) 0) := Ah hg rfl
  have e2 : BH 2 (.ptr lb 2) G H = some (.agg [.int .i64 (.ofNat line) 0, .int .i64 (.ofNat col) 0]) := KW hg (by omega) (by show 2 + 2 <= 4; omega)
  simp only [go_sem, Nat.reduceAdd, hne, hne1, e2, AIw]
  rw [T.set_set]
  have f1 : Kp H n (T.set (T.set H n (one [.int .i64 (.ofNat 0) 0, .str 0 0, .int .i64 (.ofNat 0) 0, .int .i64 (.ofNat 0) 0, .int .i64 (.ofNat 0) 0])) (n + 1) (one [.int .i64 (.ofNat 0) 0, .str 0 0, .int .i64 (.ofNat 0) 0, .int .i64 (.ofNat line) 0, .int .i64 (.ofNat col) 0])) (n + 1 + 1) :=
    ((Kp.refl H n).new (m := n + 1) _ (Nat.le_refl _) (by omega)).new _ (by omega) (by omega)
  have g1 := (T.Am (T.set H n (one [V.int .i64 (.ofNat 0) 0, .str 0 0, .int .i64 (.ofNat 0) 0, .int .i64 (.ofNat 0) 0, .int .i64 (.ofNat 0) 0])) (one [.int .i64 (.ofNat 0) 0, .str 0 0, .int .i64 (.ofNat 0) 0, .int .i64 (.ofNat line) 0, .int .i64 (.ofNat col) 0]) (show n + 1 ≠ n by omega)).trans (T.Ap ..)
  have g2 := T.Ap (T.set H n (one [V.int .i64 (.ofNat 0) 0, .str 0 0, .int .i64 (.ofNat 0) 0, .int .i64 (.ofNat 0) 0, .int .i64 (.ofNat 0) 0])) (n + 1) (one [V.int .i64 (.ofNat 0) 0, .str 0 0, .int .i64 (.ofNat 0) 0, .int .i64 (.ofNat line) 0, .int .i64 (.ofNat col) 0])
  generalize T.set (T.set H n (one [V.int .i64 (.ofNat 0) 0, .str 0 0, .int .i64 (.ofNat 0) 0, .int .i64 (.ofNat 0) 0, .int .i64 (.ofNat 0) 0])) (n + 1) (one [V.int .i64 (.ofNat 0) 0, .str 0 0, .int .i64 (.ofNat 0) 0, .int .i64 (.ofNat line) 0, .int .i64 (.ofNat col) 0]) = H1 at f1 g1 g2 ⊢
  have h := h.kp hlb f1
  have hg := f1.get hg hlb
  have e0 : AZ (.ptr lb 0) G H1 = some (sB s) := Ah hg rfl
  have e1 : AZ (.ptr lb 1) G H1 = some (.int .i64 (.ofNat a) 0) := Ah hg rfl
  simp only [go_sem, d0, d1, fV, Q8]
  have g2 : T.get H1 (n + 1) = some (one (QH FM line col)) := g2
  rcases Nat.lt_or_ge a s.length with hlt | hge
  case inr =>
    have : a = s.length := by omega
    subst this
    simp only [decide_true, go_sem]
    rw [List.drop_eq_nil_of_le (Nat.le_refl _)] at hk
    rw [VO (m := 5) g1 (by omega) rfl rfl, BL (m := 5) (T.Ap ..) (by omega) rfl]
    simp only [go_sem]
    obtain ⟨l1, c1, y1, y2, y3, y4, hg⟩ := h
    refine hk _ _ _ ((f1.set _ (Nat.le_refl _)).kx) ⟨l1, c1, y1, y2, y3, y4, ?_⟩ rfl fun _ => ⟨line, col, x1, x2, rfl⟩
    rw [T.Am _ _ (by omega)]; exact hg
  case inl =>
  have hd := List.drop_eq_getElem_cons hlt
  simp only [show decide (a = s.length) = false by simp; omega, go_sem, Nat.reduceAdd, d0, d1, ABJ hlt]
  rw [hd, show ∀ (c : UInt8) (l : Bs), Gg (c :: l) = (bif great c then XL ⟨2, (c :: l).takeWhile inner, 0⟩ else
    bif small c then XL ⟨bif decide ((c :: l).takeWhile inner ∈ Ph) then 1 else 3, (c :: l).takeWhile inner, 0⟩ else
    bif digit c then (match X4 0 ((c :: l).takeWhile digit) with | none => (22, FM) | some n => (0, ⟨4, (c :: l).takeWhile digit, n⟩)) else
    match EJ.find? (fun m => pre m (c :: l)) with | none => (20, FM) | some m => (0, ⟨5, m, 0⟩)) from fun _ _ => rfl, <- hd] at hk
  have f0 := f1.kx (b := lb)
  have hq : n + 1 ≠ lb := by omega
  have fG : ∀ {H2 : Heap} {t : Tok} {kd : Nat} {P : KV}, T.get H2 (n + 1) = some (one (QH t line col)) -> (∀ H3, T.get H3 (n + 1) = some (one (QH { t with kind := kd } line col)) -> (∀ j, j ≠ n + 1 -> T.get H3 j = T.get H2 j) -> P .undef H3 (n + 1 + 1)) ->
      Bj 1 (.ptr (n + 1) 0) (.int .i64 (.ofNat kd) 0) H2 (n + 1 + 1) P := by
    intro H2 t kd P hg hP
    exact D8 hg rfl rfl (by omega) (by show 0 + 1 <= 5; omega) fun H3 g3 s3 => hP H3 g3 s3
  have AJY : ∀ {H2 : Heap} {t : Tok} {tx : Bs} {P : KV}, T.get H2 (n + 1) = some (one (QH t line col)) -> (∀ H3, T.get H3 (n + 1) = some (one (QH { t with text := tx } line col)) -> (∀ j, j ≠ n + 1 -> T.get H3 j = T.get H2 j) -> P .undef H3 (n + 1 + 1)) ->
      Bj 1 (.ptr (n + 1) 1) (sB tx) H2 (n + 1 + 1) P := by
    intro H2 t tx P hg hP
    exact D8 hg rfl rfl (by omega) (by show 1 + 1 <= 5; omega) fun H3 g3 s3 => hP H3 g3 s3
  have AWD : ∀ {H2 : Heap} {t : Tok} {nu : Nat} {P : KV}, T.get H2 (n + 1) = some (one (QH t line col)) -> (∀ H3, T.get H3 (n + 1) = some (one (QH { t with num := nu } line col)) -> (∀ j, j ≠ n + 1 -> T.get H3 j = T.get H2 j) -> P .undef H3 (n + 1 + 1)) ->
      Bj 1 (.ptr (n + 1) 2) (.int .i64 (.ofNat nu) 0) H2 (n + 1 + 1) P := by
    intro H2 t nu P hg hP
    exact D8 hg rfl rfl (by omega) (by show 2 + 1 <= 5; omega) fun H3 g3 s3 => hP H3 g3 s3
  have only : ∀ {H2 H3 : Heap}, Kx lb H n H2 (n + 1 + 1) /\ T.get H2 n = T.get H1 n /\ LAt H2 lb s a -> (∀ j, j ≠ n + 1 -> T.get H3 j = T.get H2 j) -> Kx lb H n H3 (n + 1 + 1) /\ T.get H3 n = T.get H1 n /\ LAt H3 lb s a := by
    intro H2 H3 ⟨x, y, z⟩ hs
    obtain ⟨l1, c1, y1, y2, y3, y4, hg⟩ := z
    exact ⟨⟨by omega, fun id hid hb => (hs id (by omega)).trans (x.same id hid hb)⟩, (hs n (by omega)).trans y, l1, c1, y1, y2, y3, y4, (hs lb (by omega)).trans hg⟩
  have b0 : Kx lb H n H1 (n + 1 + 1) /\ T.get H1 n = T.get H1 n /\ LAt H1 lb s a := ⟨f0, rfl, h⟩
  have fin : ∀ {H2 : Heap} {t : Tok}, Kx lb H n H2 (n + 1 + 1) /\ T.get H2 n = T.get H1 n /\ LAt H2 lb s a -> T.get H2 (n + 1) = some (one (QH t line col)) -> a + t.text.length <= s.length -> AAz k H n lb s a (mD t) ->
      Cc lfp G (Runs F G) k (.ptr lb 0) (.ptr n 0) (.ptr (n + 1) 0) H2 (n + 1 + 1) := fun b g ht hk =>
    AAp b.1 (b.2.1.trans g1) g (by omega) (by omega) hq (by omega) (by omega) (by omega) b.2.2 ht hs x1 x2 hk
  have hin := AB4 inner (s.drop a)
  have hdi := AB4 digit (s.drop a)
  rw [List.length_drop] at hin hdi
  refine AD0 ?_
  cases k1 : great s[a] with
  | true =>
    rw [k1] at hk
    simp only [go_sem]
    refine AF8 (f := Zx) (fun c H n k hk => ADx hk) h ha hs ?_
    refine fG g2 fun H2 g s2 => ?_
    refine AJY g fun H3 g s3 => ?_
    refine fin (only (only b0 s2) s3) g (by show a + (List.takeWhile inner (s.drop a)).length <= _; omega) ?_
    have e : mD ⟨2, (s.drop a).takeWhile inner, 0⟩ = XL ⟨2, (s.drop a).takeWhile inner, 0⟩ := by simp [mD, XL]
    exact e ▸ hk
  | false =>
    rw [k1] at hk
    simp only [go_sem]
    refine AEM ?_
    cases k2 : small s[a] with
    | true =>
      rw [k2] at hk
      simp only [go_sem]
      refine AF8 (f := Zx) (fun c H n k hk => ADx hk) h ha hs ?_
      refine fG g2 fun H2 g s2 => ?_
      refine AJY g fun H3 g s3 => ?_
      have q1 : AZ (.ptr (n + 1) 1) G H3 = some (sB ((s.drop a).takeWhile inner)) := Ah g rfl
      simp only [go_sem, Nat.reduceAdd, q1]
      refine AJ8 ?_
      cases k3 : decide ((s.drop a).takeWhile inner ∈ Ph) with
      | true =>
        rw [k3] at hk
        simp only [go_sem, Nat.reduceAdd]
        refine fG g fun H4 g s4 => ?_
        refine fin (only (only (only b0 s2) s3) s4) g (by show a + (List.takeWhile inner (s.drop a)).length <= _; omega) ?_
        have e : mD ⟨1, (s.drop a).takeWhile inner, 0⟩ = XL ⟨1, (s.drop a).takeWhile inner, 0⟩ := by simp [mD, XL]
        exact e ▸ hk
      | false =>
        rw [k3] at hk
        simp only [go_sem]
        refine fin (only (only b0 s2) s3) g (by show a + (List.takeWhile inner (s.drop a)).length <= _; omega) ?_
        have e : mD ⟨3, (s.drop a).takeWhile inner, 0⟩ = XL ⟨3, (s.drop a).takeWhile inner, 0⟩ := by simp [mD, XL]
        exact e ▸ hk
    | false =>
      rw [k2] at hk
      simp only [go_sem]
      refine zi ?_
      cases k3 : digit s[a] with
      | true =>
        rw [k3] at hk
        simp only [go_sem]
        refine AF8 (f := Wl) (fun c H n k hk => zi hk) h ha hs ?_
        refine fG g2 fun H2 g s2 => ?_
        refine AJY g fun H3 g s3 => ?_
        have q1 : AZ (.ptr (n + 1) 1) G H3 = some (sB ((s.drop a).takeWhile digit)) := Ah g rfl
        simp only [go_sem, Nat.reduceAdd, q1]
        have b3 := only (only b0 s2) s3
        have htw : ∀ c ∈ (s.drop a).takeWhile digit, digit c = true := fun c hc => by
          have := List.all_takeWhile (l := s.drop a) (p := digit); exact List.all_eq_true.1 this c hc
        refine AGt htw (by omega) fun H4 f4 => ?_
        have g4 := f4.get g (by omega)
        have b4 := b3.1.trans f4.kx
        have gn := f4.get (b3.2.1.trans g1) (by omega)
        have h4 := b3.2.2.kp (n := n + 1 + 1) (by omega) f4
        cases hnum : X4 0 ((s.drop a).takeWhile digit) with
        | none =>
          rw [hnum] at hk
          simp only [ANp, go_sem, Nat.reduceAdd]
          refine D8 g4 rfl rfl (by omega) (by show 2 + 1 <= 5; omega) fun H5 g5 s5 => ?_
          have e : WJ (.bool false) = some (.bool true) := rfl
          simp only [go_sem, e, zM]
          have gn5 := (s5 n (by omega)).trans gn
          rw [VO (m := 5) gn5 (by omega) rfl rfl, BL (m := 5) (T.Ap ..) (by omega) rfl]
          simp only [go_sem]
          obtain ⟨l1, c1, y1, y2, y3, y4, hg⟩ := h4
          refine hk _ _ _ ⟨by omega, fun id hid hb => ?_⟩ ⟨l1, c1, y1, y2, y3, y4, ?_⟩ rfl fun h => by cases h
          · rw [T.Am _ _ (by omega), s5 _ (by omega)]; exact b4.same id hid hb
          · rw [T.Am _ _ (by omega), s5 _ (by omega)]; exact hg
        | some nu =>
          rw [hnum] at hk
          simp only [ANp, go_sem, Nat.reduceAdd]
          refine D8 g4 rfl rfl (by omega) (by show 2 + 1 <= 5; omega) fun H5 g5 s5 => ?_
          have e : WJ (.bool true) = some (.bool false) := rfl
          simp only [go_sem, e]
          have gn5 := (s5 n (by omega)).trans gn
          have g5 : T.get H5 (n + 1) = some (one (QH ⟨4, (s.drop a).takeWhile digit, nu⟩ line col)) := g5
          have b5 : Kx lb H n H5 (n + 1 + 1 + 1) := ⟨b4.le, fun id hid hb => (s5 id (by omega)).trans (b4.same id hid hb)⟩
          obtain ⟨l1, c1, y1, y2, y3, y4, hg⟩ := h4
          refine AAp b5 gn5 g5 (by omega) (by omega) hq (by omega) (by omega) (by omega) ⟨l1, c1, y1, y2, y3, y4, (s5 _ (by omega)).trans hg⟩ (by show a + (List.takeWhile digit (s.drop a)).length <= _; omega) hs x1 x2 ?_
          have e : mD ⟨4, (s.drop a).takeWhile digit, nu⟩ = (0, ⟨4, (s.drop a).takeWhile digit, nu⟩) := by simp [mD]
          exact e ▸ hk
      | false =>
        rw [k3] at hk
        simp only [go_sem]
        have e80 : BH 22 (.gptr 0 0) G H1 = some (.agg (EJ.map sB)) := by
          show LX (G 0 0 22) (fun L => some (.agg L)) = _
          rw [hG]; rfl
        simp only [go_sem, e80]
        obtain ⟨R, hR⟩ : ∃ R, EJ.find? (fun m => pre m (s.drop a)) = R := ⟨_, rfl⟩
        rw [hR] at hk
        refine SN (N := 22) (J := fun j q => q = (.ptr lb 0, .ptr n 0, .ptr (n + 1) 0, .agg (EJ.map sB), .int .i64 (.ofNat j) 0, H1, n + 1 + 1) /\ (EJ.drop j).find? (fun m => pre m (s.drop a)) = R) ?_ ?_ ⟨rfl, hR⟩
        · rintro I j q hlt ⟨rfl, hR⟩ ih
          show Gz lfp G (Runs F G) k I (.ptr lb 0) (.ptr n 0) (.ptr (n + 1) 0) (.agg (EJ.map sB)) (.int .i64 (.ofNat j) 0) H1 (n + 1 + 1)
          delta Gz
          have hj : j < EJ.length := hlt
          rw [List.drop_eq_getElem_cons hj, List.find?_cons] at hR
          have hlen : (EJ[j]).length <= 2 := by
            have : ∀ m ∈ EJ, m.length <= 2 := by decide
            exact this _ (List.getElem_mem hj)
          have hix : AFs 22 (.agg (EJ.map sB)) (.int .i64 (.ofNat j) 0) = some (sB EJ[j]) := by
            show Aq (Nat.blt j 22) (nth (EJ.map sB) j) = _
            rw [show Nat.blt j 22 = true by rw [Nat.blt_eq]; exact hlt, Yn]
            show (EJ.map sB)[j]? = _
            simp [hj]
          generalize EJ[j] = m at hR hlen hix
          simp only [go_sem, Pz, hlt, decide_true, hix, Nat.reduceAdd, e0, e1, ACi ha]
          refine oV ?_
          cases hp : pre m (s.drop a) with
          | true =>
            rw [hp] at hR
            subst hR
            simp only [go_sem, Nat.reduceAdd]
            refine fG g2 fun H2 g s2 => ?_
            refine AJY g fun H3 g s3 => ?_
            have hle : m.length <= s.length - a := by
              unfold pre at hp
              rw [List.length_drop] at hp
              simp only [Bool.and_eq_true, decide_eq_true_eq] at hp
              exact hp.1
            refine fin (only (only b0 s2) s3) g (by show a + m.length <= _; omega) ?_
            have e : mD ⟨5, m, 0⟩ = (0, ⟨5, m, 0⟩) := by
              have : ¬ 40 < m.length := by omega
              simp [mD, this]
            exact e ▸ hk
          | false =>
            rw [hp] at hR
            simp only [go_sem, La (show j + 1 < 9223372036854775808 by omega)]
            exact ih _ ⟨rfl, hR⟩
        · rintro I q ⟨rfl, hR⟩
          show Gz lfp G (Runs F G) k I (.ptr lb 0) (.ptr n 0) (.ptr (n + 1) 0) (.agg (EJ.map sB)) (.int .i64 (.ofNat 22) 0) H1 (n + 1 + 1)
          delta Gz
          rw [show EJ.drop 22 = [] from rfl] at hR
          subst hR
          simp only [go_sem, Pz, Nat.lt_irrefl, decide_false]
          exact fin b0 g2 (by show a + 0 <= _; omega) hk
end
end Go.PQ
namespace Go.PQ
open Go.Eng
set_option maxRecDepth 100000
def AEh (c : LV) (t : Tok) : Prop := ∃ line col, 1 <= line /\ 1 <= col /\ c = QH t line col
theorem tu (c : UInt8) (l : Bs) : Gg (c :: l) = (bif great c then XL ⟨2, (c :: l).takeWhile inner, 0⟩ else
    bif small c then XL ⟨bif decide ((c :: l).takeWhile inner ∈ Ph) then 1 else 3, (c :: l).takeWhile inner, 0⟩ else
    bif digit c then (match X4 0 ((c :: l).takeWhile digit) with | none => (22, FM) | some n => (0, ⟨4, (c :: l).takeWhile digit, n⟩)) else
    match EJ.find? (fun m => pre m (c :: l)) with | none => (20, FM) | some m => (0, ⟨5, m, 0⟩)) := rfl
theorem AHY : ∀ r : Bs, (Gg r).2.text.length <= r.length
 | [] => Nat.le_refl _
 | c :: l => by
  have h1 := AB4 inner (c :: l)
  have h2 := AB4 digit (c :: l)
  have hc : ∀ t : Tok, t.text.length <= (c :: l).length -> (XL t).2.text.length <= (c :: l).length := by
   intro t ht; unfold XL; cases decide (40 < t.text.length)
   ·exact ht
   ·exact Nat.zero_le _
  rw [tu]
  cases great c
  case true => exact hc ⟨2, _, 0⟩ h1
  cases small c
  case true => exact hc ⟨_, _, 0⟩ h1
  cases digit c
  case true =>
   simp only [cond_true, cond_false]
   cases X4 0 ((c :: l).takeWhile digit) with
   | none => exact Nat.zero_le _
   | some n => exact h2
  simp only [cond_false]
  cases hf : EJ.find? (fun m => pre m (c :: l)) with
  | none => exact Nat.zero_le _
  | some m =>
   have := List.find?_some hf
   simp only [pre, Bool.and_eq_true, decide_eq_true_eq] at this
   exact this.1
theorem AFA : ∀ r : Bs, (Gg r).1 = 0 -> (Gg r).2.kind ≠ 0 -> 0 < (Gg r).2.text.length
 | [] => fun _ h => absurd rfl h
 | c :: l => by
  have hc : ∀ t : Tok, 0 < t.text.length -> (XL t).1 = 0 -> 0 < (XL t).2.text.length := by
   intro t ht; unfold XL; cases decide (40 < t.text.length)
   ·exact fun _ => ht
   ·intro h; cases h
  have tw : ∀ g : UInt8 -> Bool, g c = true -> 0 < ((c :: l).takeWhile g).length := fun g h => by rw [List.takeWhile_cons, h]; simp
  rw [tu]
  cases h1 : great c
  case true => exact fun h _ => hc ⟨2, _, 0⟩ (tw inner (by simp [inner, h1])) h
  cases h2 : small c
  case true => exact fun h _ => hc ⟨_, _, 0⟩ (tw inner (by simp [inner, h2])) h
  cases h3 : digit c
  case true =>
   simp only [cond_true, cond_false]
   cases X4 0 ((c :: l).takeWhile digit) with
   | none => intro h; cases h
   | some n => exact fun _ _ => tw digit h3
  simp only [cond_false]
  cases hf : EJ.find? (fun m => pre m (c :: l)) with
  | none => intro h; cases h
  | some m =>
   intro _ _
   have h4 : ∀ m ∈ EJ, 0 < m.length := by decide
   exact h4 m (List.mem_of_find?_eq_some hf)
def AQY (G : AP) (k : KV) (H : Heap) (n : Nat) (r : Nat × List Tok) : Prop := ∀ (H' : Heap) (n' : Nat) (v : V) (c : LV), Kp H n H' n' ->
 (r.1 = 0 -> (∃ cs id, v = .Nr id 0 cs.length 5 /\ n <= id /\ id < n' /\ El G H' v 5 cs /\ Pw AEh cs r.2) /\ c = [.int .i64 (.ofNat 0) 0, .int .i64 (.ofNat 0) 0, .int .i64 (.ofNat 0) 0]) ->
 (r.1 ≠ 0 -> ∃ line col, 1 <= line /\ 1 <= col /\ c = [.int .i64 (.ofNat r.1) 0, .int .i64 (.ofNat line) 0, .int .i64 (.ofNat col) 0]) -> k (.Gh [v, .agg c]) H' n'
theorem AC3 {z0 z1 z2 a b : V} (e : Int) : BR [z0, z1, z2] [(0, 1, .c (.int .i64 e 0)), (1, 2, .c (.agg [a, b]))] = some (.agg [.int .i64 e 0, a, b]) := rfl
theorem ALr {z0 z1 z2 : V} : BR [z0, z1, z2] [] = some (.agg [z0, z1, z2]) := rfl
theorem AML {z0 z1 z2 z3 a b : V} (s : Bs) : BR [z0, z1, z2, z3] [(0, 1, .c (sB s)), (2, 2, .c (.agg [a, b]))] = some (.agg [sB s, z1, a, b]) := rfl
section
variable {G : AP} {H : Heap} {n : Nat} {s : Bs} {k : KV}
theorem AP5 (hG : Qm G) (hk : AQY G k H n (vw s)) : Runs F G wU [sB s] H n k := by
  refine BZ (s := Eu (YK lfp G)) iR (by obtain ⟨h, o⟩ := sS BX G; rw [iR] at h; cases h; exact o) ?_
  show YK lfp G (Runs F G) (sB s) H n k
  delta YK
  unfold vw at hk
  simp only [go_sem, Nat.reduceAdd, AFv, AML, fV, fZ]
  have f1 : Kp H n (T.set (T.set H n (one [.int .i64 (.ofNat 0) 0, .int .i64 (.ofNat 0) 0, .int .i64 (.ofNat 0) 0])) (n + 1) (one [sB s, .int .i64 (.ofNat 0) 0, .int .i64 (.ofNat 1) 0, .int .i64 (.ofNat 1) 0])) (n + 1 + 1) :=
    ((Kp.refl H n).new (m := n + 1) _ (Nat.le_refl _) (by omega)).new _ (by omega) (by omega)
  have g1 := (T.Am (T.set H n (one [V.int .i64 (.ofNat 0) 0, .int .i64 (.ofNat 0) 0, .int .i64 (.ofNat 0) 0])) (one [sB s, .int .i64 (.ofNat 0) 0, .int .i64 (.ofNat 1) 0, .int .i64 (.ofNat 1) 0]) (show n + 1 ≠ n by omega)).trans (T.Ap ..)
  have g2 := T.Ap (T.set H n (one [V.int .i64 (.ofNat 0) 0, .int .i64 (.ofNat 0) 0, .int .i64 (.ofNat 0) 0])) (n + 1) (one [sB s, .int .i64 (.ofNat 0) 0, .int .i64 (.ofNat 1) 0, .int .i64 (.ofNat 1) 0])
  generalize T.set (T.set H n (one [V.int .i64 (.ofNat 0) 0, .int .i64 (.ofNat 0) 0, .int .i64 (.ofNat 0) 0])) (n + 1) (one [sB s, .int .i64 (.ofNat 0) 0, .int .i64 (.ofNat 1) 0, .int .i64 (.ofNat 1) 0]) = H1 at f1 g1 g2 ⊢
  cases hs : decide (65536 < s.length) with
  | true =>
    rw [hs] at hk
    simp only [go_sem, Nat.reduceAdd]
    rw [KW (m := 2) (o := 2) g2 (by omega) (by show 2 + 2 <= 4; omega)]
    simp only [go_sem, List.drop_succ_cons, List.drop_zero, List.take_succ_cons, List.take_zero, AC3]
    rw [VO (m := 3) g1 (by omega) rfl rfl, BL (m := 3) (T.Ap ..) (by omega) rfl]
    simp only [go_sem]
    exact hk _ _ _ _ (f1.set _ (Nat.le_refl _)) (fun h => by cases h) fun _ => ⟨1, 1, by omega, by omega, rfl⟩
  | false =>
    rw [hs, cond_false] at hk
    have hs : s.length <= 65536 := by simpa using hs
    simp only [go_sem]
    refine LG (J := fun m q => ∃ H' n' a v cs xs f, m = s.length - a /\ q = (.ptr n 0, .ptr (n + 1) 0, v, H', n') /\ Kp H n H' n' /\ n + 2 <= n' /\ T.get H' n = some (one [.int .i64 (.ofNat 0) 0, .int .i64 (.ofNat 0) 0, .int .i64 (.ofNat 0) 0]) /\ LAt H' (n + 1) s a /\
      a <= s.length /\ Own G H' (n + 2) n' 5 v cs /\ Pw AEh cs xs /\ cs.length <= a /\ s.length - a < f /\ AQY G k H n ((kY f (s.drop a)).1, xs ++ (kY f (s.drop a)).2)) ?_ (m := s.length)
      ⟨H1, n + 1 + 1, 0, .Ae, [], [], s.length + 1, rfl, rfl, f1, by omega, g1, ⟨1, 1, by omega, by omega, by omega, by omega, g2⟩, by omega, dZ, .nil, by simp, by omega, hk⟩
    rintro I m q ⟨H2, n2, a, v, cs, xs, f, rfl, rfl, f2, hn2, g0, hl, ha, ho, hx, hcs, hf, hk⟩ ih
    show Xe lfp G (Runs F G) k I (.ptr n 0) (.ptr (n + 1) 0) v H2 n2
    delta Xe
    refine ALw hl ha hs fun H3 a3 f3 hl3 ha3 hd3 => ?_
    refine AMt hG hl3 ha3 hs (by omega) ?_
    obtain ⟨f, rfl⟩ : ∃ g, f = g + 1 := ⟨f - 1, by omega⟩
    rw [hd3]
    have hlexF : kY (f + 1) (s.drop a) = bif decide ((Gg (Bz false (s.drop a))).1 = 0) then
        bif decide ((Gg (Bz false (s.drop a))).2.kind = 0) then (0, [(Gg (Bz false (s.drop a))).2])
        else ((kY f ((Bz false (s.drop a)).drop (Gg (Bz false (s.drop a))).2.text.length)).1, (Gg (Bz false (s.drop a))).2 :: (kY f ((Bz false (s.drop a)).drop (Gg (Bz false (s.drop a))).2.text.length)).2)
      else ((Gg (Bz false (s.drop a))).1, []) := rfl
    rw [hlexF, <- hd3] at hk
    have hle := AHY (s.drop a3)
    have hpos := AFA (s.drop a3)
    rw [List.length_drop] at hle
    rw [<- hd3]
    intro H4 n4 c f4 hl4 hcl ht
    generalize Gg (s.drop a3) = R at hk hle hpos hl4 ht
    obtain ⟨e, t⟩ := R
    simp only [go_sem, Nat.reduceAdd]
    obtain ⟨c0, c1, c2, c3, c4, rfl⟩ : ∃ c0 c1 c2 c3 c4, c = [c0, c1, c2, c3, c4] := by
      match c, hcl with
      | [c0, c1, c2, c3, c4], _ => exact ⟨c0, c1, c2, c3, c4, rfl⟩
    have f24 := f3.trans f4
    have hn4 := f24.le
    have g04 : T.get H4 n = _ := f24.get g0 (by omega) (by omega)
    have ho4 := ho.kx f24 (by omega)
    have f4' : Kp H n H4 n4 := ⟨by have := f2.le; omega, fun id hid => (f24.same id (by omega) (by omega)).trans (f2.same id hid)⟩
    simp only [go_sem, Nat.reduceAdd]
    rw [T.set_set]
    have f5 : Kp H4 n4 (T.set H4 n4 (one [c0, c1, c2, c3, c4])) (n4 + 1) := (Kp.refl _ _).new _ (Nat.le_refl _) (by omega)
    have g5 := T.Ap H4 n4 (one [c0, c1, c2, c3, c4])
    generalize T.set H4 n4 (one [c0, c1, c2, c3, c4]) = H5 at f5 g5 ⊢
    have g05 := f5.get g04 (by omega)
    have f5' := f4'.trans f5
    have hl5 := hl4.kp (n := n4) (by omega) f5
    simp only [eY]
    cases he : decide (e = 0) with
    | false =>
      have he' : e ≠ 0 := by simpa using he
      rw [he, cond_false] at hk
      obtain ⟨line, col, y1, y2, y3, y4, hg⟩ := hl5
      simp only [Bool.not_false, go_sem, Nat.reduceAdd]
      rw [KW (m := 2) (o := 2) hg (by omega) (by show 2 + 2 <= 4; omega)]
      simp only [go_sem, List.drop_succ_cons, List.drop_zero, List.take_succ_cons, List.take_zero, AC3]
      rw [VO (m := 3) g05 (by omega) rfl rfl, BL (m := 3) (T.Ap ..) (by omega) rfl]
      simp only [go_sem]
      exact hk _ _ _ _ (f5'.set _ (Nat.le_refl _)) (fun h => absurd h he') fun _ => ⟨line, col, y1, y2, rfl⟩
    | true =>
      have he' : e = 0 := by simpa using he
      subst he'
      rw [he, cond_true] at hk
      obtain ⟨line, col, y1, y2, hc⟩ := ht rfl
      rw [hc] at g5 ⊢
      simp only [Bool.not_true, go_sem]
      refine LZ (G := G) (vs := [.agg (QH t line col)]) rfl (by omega) (fun v hv => by simp at hv; subst hv; exact ⟨rfl, rfl⟩) fun H6 f6 _ hel => ?_
      have ho6 := (ho4.kp f5).kp f6
      refine ho6.gr.app (by omega) ho6.lo hel.2 (by show (cs.length + 1) * 48 <= _; omega) ?_ (fun h => by cases h)
      intro v' H7 hgr hsame hlo
      have hgr : Gr G H7 (n + 2) 5 v' (cs ++ [QH t line col]) := hgr
      have f7 : Kp H n H7 (n4 + 1 + 1 + 1) := ⟨by have := f5'.le; omega, fun id hid => (hsame id (by have := f5'.le; omega) (fun h => by have := ho6.ge h; omega)).trans ((f6.same id (by have := f5'.le; omega)).trans (f5'.same id hid))⟩
      have g7 : ∀ {id : Nat} {b : OD}, id < n + 2 -> T.get H5 id = some b -> T.get H7 id = some b := fun hid h => (hsame _ (by omega) (fun h => by have := ho6.ge h; omega)).trans ((f6.same _ (by omega)).trans h)
      have g57 : T.get H7 n4 = some (one (QH t line col)) := (hsame n4 (by omega) (fun h => by have := ho4.lo _ h; omega)).trans ((f6.same n4 (by omega)).trans g5)
      have q0 : AZ (.ptr n4 0) G H7 = some (.int .i64 (.ofNat t.kind) 0) := Ah g57 rfl
      have hel7 : El G H7 v' 5 (cs ++ [QH t line col]) := hgr.el (by omega)
      have hpw : Pw AEh (cs ++ [QH t line col]) (xs ++ [t]) := hx.app (.cons ⟨line, col, y1, y2, rfl⟩ .nil)
      simp only [go_sem, Nat.reduceAdd, q0, Q8]
      cases hkd : decide (t.kind = 0) with
      | true =>
        rw [hkd, cond_true] at hk
        simp only [go_sem, ALr]
        rw [VO (m := 3) (g7 (by omega) g05) (by omega) rfl rfl, BL (m := 3) (T.Ap ..) (by omega) rfl]
        simp only [go_sem]
        have f8 := f7.set (one [V.int .i64 (.ofNat 0) 0, .int .i64 (.ofNat 0) 0, .int .i64 (.ofNat 0) 0]) (Nat.le_refl n)
        refine hk _ _ _ _ f8 (fun _ => ⟨?_, rfl⟩) (fun h => absurd rfl h)
        have hel8 : El G (T.set H7 n (one [V.int .i64 (.ofNat 0) 0, .int .i64 (.ofNat 0) 0, .int .i64 (.ofNat 0) 0])) v' 5 (cs ++ [QH t line col]) := hel7.same fun id hid => T.Am _ _ (by have := (hgr.lo hid).1; omega)
        generalize hcs' : cs ++ [QH t line col] = cs' at hgr hel7 hel8 hpw
        cases hgr with
        | nil => simp at hcs'
        | Nr hg hc ht hid =>
          rename_i id c tt
          exact ⟨_, id, rfl, by omega, by have := hlo id rfl; omega, hel8, hpw⟩
      | false =>
        rw [hkd, cond_false] at hk
        have hkd' : t.kind ≠ 0 := by simpa using hkd
        have hp0 : 0 < t.text.length := hpos rfl hkd'
        have hle : t.text.length <= s.length - a3 := hle
        have hlen : (s.drop a3).length = (Bz false (s.drop a)).length := by rw [hd3]
        have hsk := bU false (s.drop a)
        rw [List.length_drop] at hlen hsk
        simp only [go_sem]
        have hl7 : LAt H7 (n + 1) s (a3 + t.text.length) := by
          obtain ⟨line, col, y1, y2, y3, y4, hg⟩ := hl5
          exact ⟨line, col, y1, y2, y3, y4, g7 (by omega) hg⟩
        refine ih (s.length - (a3 + t.text.length)) _ (by omega) ⟨H7, n4 + 1 + 1 + 1, a3 + t.text.length, v', cs ++ [QH t line col], xs ++ [t], f, rfl, rfl, f7, by omega, g7 (by omega) g05, hl7, by omega, ⟨hgr, hlo⟩, hpw, ?_, by omega, ?_⟩
        · rw [List.length_append]; show cs.length + 1 <= _; omega
        · rw [List.append_assoc, <- List.drop_drop]; exact hk
end
end Go.PQ
namespace Go.PQ
open Go.Eng
structure S where
 t : Tok
 r : List Tok
 deep : Nat
 e : Nat
abbrev PM (α : Type) := S -> Option (α × S)
def S.ok (s : S) : Bool := decide (s.e = 0)
def GY (e : Nat) (s : S) : S := bif s.ok then { s with e := e } else s
def PV (w : Bs) (s : S) : Bool := s.ok && ((decide (s.t.kind = 1) || decide (s.t.kind = 5)) && decide (s.t.text = w))
def Ov (ws : List Bs) (s : S) : Bool := ws.any fun w => PV w s
def LY (s : S) : Option S := bif decide (s.t.kind = 0) then some s else match s.r with | [] => none | t :: r => some { s with t := t, r := r }
def C9 (w : Bs) : PM Bool := fun s => bif PV w s then (LY s).bind fun s' => some (true, s') else some (false, s)
def DI : List Bs -> S -> Option S
 | [], s => some s
 | w :: ws, s => (C9 w s).bind fun p => DI ws (bif p.1 then p.2 else GY 21 p.2)
def Ii (k : Nat) : PM Bs := fun s => bif s.ok && decide (s.t.kind = k) then (LY s).bind fun s' => some (s.t.text, s') else some ([], GY 21 s)
def Ro (s : S) : Option S := bif decide (s.deep < 1000000) then some (bif decide (100 < s.deep + 1) then GY 3 { s with deep := s.deep + 1 } else { s with deep := s.deep + 1 }) else none
def bM (s : S) : Option S := match s.deep with | 0 => none | d + 1 => bif decide (d < 1000000) then some { s with deep := d } else none
def IU (n : Nat) (s : S) : S := bif decide (200 < n) then GY 4 s else s
structure Ty where
 nm : Bs
 arr : Bool
def ABM : PM Ty := fun s => (C9 I4 s).bind fun p => bif p.1 then some (⟨I4, false⟩, p.2) else
 (C9 iw p.2).bind fun p => bif p.1 then some (⟨iw, false⟩, p.2) else (Ii 2 p.2).bind fun p => some (⟨p.1, false⟩, p.2)
def lS : PM Ty := fun s => (ABM s).bind fun p => (C9 kJ p.2).bind fun q => bif q.1 then (DI [lQ] q.2).bind fun s => some (⟨p.1.nm, true⟩, s) else some (p.1, q.2)
inductive Ex where
 | mk (kind num : Nat) (nm : Bs) (ty : Bs) (arr : Bool) (kids : List Ex)
def Ex.kind : Ex -> Nat | .mk k _ _ _ _ _ => k
def dU (k : Nat) (w : Bs) (nx : PM Ex) : Nat -> Ex -> PM Ex
 | 0, _, _ => none
 | f + 1, e, s => bif Ov [w] s then (LY s).bind fun s1 => (nx s1).bind fun p => dU k w nx f (.mk k 0 [] [] false [e, p.1]) p.2 else some (e, s)
def either (k : Nat) (w : Bs) (nx : PM Ex) (f : Nat) : PM Ex := fun s => (nx s).bind fun p => dU k w nx f p.1 p.2
def nN (ws : List Bs) (nx : PM Ex) : Nat -> Ex -> PM Ex
 | 0, _, _ => none
 | f + 1, e, s => bif Ov ws s then (LY s).bind fun s1 => (nx s1).bind fun p => nN ws nx f (.mk 16 0 s.t.text [] false [e, p.1]) p.2 else some (e, s)
def signs (ws : List Bs) (nx : PM Ex) (f : Nat) : PM Ex := fun s => (nx s).bind fun p => nN ws nx f p.1 p.2
def sumP (un : PM Ex) (f : Nat) : PM Ex := signs [Y0, CG] (signs [WG, Qk, jv] un f) f
def compared (un : PM Ex) (f : Nat) : PM Ex := fun s => (sumP un f s).bind fun p =>
 bif Ov [Xb, lK, Ua, jQ] p.2 then (LY p.2).bind fun s1 => (sumP un f s1).bind fun q => some (.mk 16 0 p.2.t.text [] false [p.1, q.1], q.2) else some (p.1, p.2)
def asL : Nat -> Ex -> PM Ex
 | 0, _, _ => none
 | f + 1, e, s => bif Ov [ABE, qI] s then (LY s).bind fun s1 => (Ii 2 s1).bind fun p => asL f (.mk (bif decide (s.t.text = qI) then 20 else 19) 0 [] p.1 false [e]) p.2 else some (e, s)
def ABe (rec : PM Ex) : Nat -> List Ex -> PM (List Ex)
  | 0, _, _ => none
  | f + 1, out, s => bif s.ok then (C9 J8 s).bind fun p => bif p.1 then some (out, p.2) else
      (bif decide (0 < out.length) then DI [Ob] p.2 else some p.2).bind fun s1 => (rec s1).bind fun q => ABe rec f (out ++ [q.1]) (IU (out.length + 1) q.2)
    else some (out, s)
def wZ (rec : PM Ex) (f : Nat) : PM (List Ex) := fun s => (DI [JY] s).bind fun s1 => ABe rec f [] s1
def lD (rec : PM Ex) (f : Nat) (e : Ex) : PM Ex := fun s => (C9 kK s).bind fun p => bif p.1 then some (.mk 13 0 [] [] false [e], p.2) else
 (Ii 3 p.2).bind fun q => bif Ov [JY] q.2 then (wZ rec f q.2).bind fun a => some (.mk 8 0 q.1 [] false (e :: a.1), a.2) else some (.mk 7 0 q.1 [] false [e], q.2)
def uN (t : Ty) : Bool := !t.arr && (match t.nm with | [] => false | c :: _ => great c)
def YE (rec : PM Ex) (f : Nat) : PM Ex := fun s =>
 bif !s.ok then some (.mk 0 0 [] [] false [], s) else
 bif decide (s.t.kind = 4) then (LY s).bind fun s1 => some (.mk 1 s.t.num [] [] false [], s1) else
 bif decide (s.t.kind = 3) then (LY s).bind fun s1 => some (.mk 6 0 s.t.text [] false [], s1) else
 bif decide (s.t.kind = 2) then (LY s).bind fun s1 => (DI [ZT] s1).bind fun s2 => (Ii 3 s2).bind fun q => (wZ rec f q.2).bind fun a => some (.mk 9 0 q.1 s.t.text false a.1, a.2) else
 (C9 Vx s).bind fun p => bif p.1 then some (.mk 2 0 [] [] false [], p.2) else
 (C9 jm p.2).bind fun p => bif p.1 then some (.mk 3 0 [] [] false [], p.2) else
 (C9 rE p.2).bind fun p => bif p.1 then some (.mk 4 0 [] [] false [], p.2) else
 (C9 uM p.2).bind fun p => bif p.1 then some (.mk 5 0 [] [] false [], p.2) else
 (C9 ADo p.2).bind fun p => bif p.1 then
  ((ABM p.2).bind fun b => (C9 kJ b.2).bind fun q => bif q.1 then (rec q.2).bind fun x => (DI [lQ] x.2).bind fun s1 => some (.mk 11 0 [] b.1.nm b.1.arr [x.1], s1)
   else some (.mk 10 0 [] b.1.nm b.1.arr [], bif uN b.1 then q.2 else GY 21 q.2)) else
 (C9 JY p.2).bind fun p => bif p.1 then (rec p.2).bind fun x => (DI [J8] x.2).bind fun s1 => some (x.1, s1) else
 some (.mk 0 0 [] [] false [], GY 21 p.2)
def Y7 (rec : PM Ex) : Nat -> Ex -> PM Ex
 | 0, _, _ => none
 | f + 1, e, s => (C9 kJ s).bind fun p => bif p.1 then (rec p.2).bind fun q => (DI [lQ] q.2).bind fun s1 => Y7 rec f (.mk 12 0 [] [] false [e, q.1]) s1 else
  (C9 ZT p.2).bind fun p => bif p.1 then (lD rec f e p.2).bind fun q => Y7 rec f q.1 q.2 else some (e, p.2)
def bG (rec : PM Ex) (f : Nat) : PM Ex := fun s => (YE rec f s).bind fun p => Y7 rec f p.1 p.2
def unary (rec : PM Ex) : Nat -> PM Ex
 | 0, _ => none
 | f + 1, s => bif Ov [CG] s then (Ro s).bind fun s1 => (LY s1).bind fun s2 => (unary rec f s2).bind fun p => (bM p.2).bind fun s' => some (.mk 14 0 [] [] false [p.1], s') else
  bif Ov [Rx] s then (Ro s).bind fun s1 => (LY s1).bind fun s2 => (unary rec f s2).bind fun p => (bM p.2).bind fun s' => some (.mk 15 0 [] [] false [p.1], s') else
  (bG rec f s).bind fun p => asL f p.1 p.2
def ABS (rec : PM Ex) (f : Nat) : PM Ex := fun s => (Ro s).bind fun s1 => (either 18 qK (either 17 Wu (compared (unary rec f) f) f) f s1).bind fun p => (bM p.2).bind fun s' => some (p.1, s')
def expr : Nat -> PM Ex
 | 0, _ => none
 | f + 1, s => ABS (expr f) f s
inductive St where
 | mk (does : Nat) (nm : Bs) (ty : Ty) (es : List Ex) (th el : List St)
def Es (st : PM St) : Nat -> List St -> PM (List St)
 | 0, _, _ => none
 | f + 1, out, s => bif s.ok then (C9 m_rc s).bind fun p => bif p.1 then some (out, p.2) else (st p.2).bind fun q => bif decide (out.length < 1000000) then Es st f (out ++ [q.1]) q.2 else none
  else some (out, s)
def O0 (st : PM St) (f : Nat) : PM (List St) := fun s => (Ro s).bind fun s1 => (DI [J7] s1).bind fun s2 => (Es st f [] s2).bind fun p => (bM p.2).bind fun s' => some (p.1, s')
def YB : Ty := ⟨[], false⟩
def lu (f : Nat) : PM St := fun s => (expr f s).bind fun p => bif Ov [TF] p.2 then
    (DI [TF] (bif decide (p.1.kind = 6) || (decide (p.1.kind = 7) || decide (p.1.kind = 12)) then p.2 else GY 21 p.2)).bind fun s1 => (expr f s1).bind fun q => some (.mk 2 [] YB [p.1, q.1] [] [], q.2)
  else some (.mk 3 [] YB [p.1] [] [], bif decide (p.1.kind = 8) || decide (p.1.kind = 9) then p.2 else GY 21 p.2)
def endP (st : St) (s : S) : Option (St × S) := (DI [Bc] s).bind fun s1 => some (st, s1)
def zI (st ch : PM St) (f : Nat) : PM St := fun s => (Ro s).bind fun s1 => (DI [mY] s1).bind fun s2 => (expr f s2).bind fun c => (O0 st f c.2).bind fun t =>
 (C9 yO t.2).bind fun p => (bif p.1 then (bif Ov [mY] p.2 then (ch p.2).bind fun x => some ([x.1], x.2) else O0 st f p.2) else some ([], p.2)).bind fun x =>
 (bM x.2).bind fun s' => some (.mk 4 [] YB [c.1] t.1 x.1, s')
def og (st ch : PM St) (f : Nat) : PM St := fun s => (C9 ABY s).bind fun p => bif p.1 then
    (lS p.2).bind fun t => (Ii 3 t.2).bind fun n => (DI [TF] n.2).bind fun s1 => (expr f s1).bind fun x => endP (.mk 1 n.1 t.1 [x.1] [] []) x.2 else
  bif Ov [mY] p.2 then ch p.2 else
  (C9 Qs p.2).bind fun p => bif p.1 then (expr f p.2).bind fun c => (O0 st f c.2).bind fun t => some (.mk 5 [] YB [c.1] t.1 [], t.2) else
  (C9 Cm p.2).bind fun p => bif p.1 then (expr f p.2).bind fun x => endP (.mk 6 [] YB [x.1] [] []) x.2 else
  (C9 Wp p.2).bind fun p => bif p.1 then (expr f p.2).bind fun x => endP (.mk 7 [] YB [x.1] [] []) x.2 else
  (lu f p.2).bind fun x => endP x.1 x.2
def sc : Nat -> Bool -> PM St
 | 0, _, _ => none
 | f + 1, b, s => bif b then zI (sc f false) (sc f true) f s else og (sc f false) (sc f true) f s
structure Va where
 nm : Bs
 ty : Ty
structure Me where
 nm : Bs
 st : Bool
 ps : List Va
 ret : Ty
 body : List St
structure Cl where
 nm : Bs
 sup : Bs
 fs : List Va
 ms : List Me
def dS : Nat -> List Va -> PM (List Va)
  | 0, _, _ => none
  | f + 1, out, s => bif s.ok then (C9 J8 s).bind fun p => bif p.1 then some (out, p.2) else
      (bif decide (0 < out.length) then DI [Ob] p.2 else some p.2).bind fun s1 => (lS s1).bind fun t => (Ii 3 t.2).bind fun n => dS f (out ++ [⟨n.1, t.1⟩]) (IU (out.length + 1) n.2)
    else some (out, s)
def WW (f : Nat) : PM Me := fun s => (C9 O8 s).bind fun p => (DI [Et] p.2).bind fun s1 => (lS s1).bind fun t => (Ii 3 t.2).bind fun n => (DI [JY] n.2).bind fun s2 =>
 (dS f [] s2).bind fun ps => (O0 (sc f false) f ps.2).bind fun b => some (⟨n.1, p.1, ps.1, t.1, b.1⟩, b.2)
def F6 (f : Nat) : Nat -> List Va -> List Me -> PM (List Va × List Me)
  | 0, _, _, _ => none
  | g + 1, fs, ms, s => bif s.ok then (C9 m_rc s).bind fun p => bif p.1 then some ((fs, ms), p.2) else
      (C9 Sj p.2).bind fun p => bif p.1 then (lS p.2).bind fun t => (Ii 3 t.2).bind fun n => (DI [Bc] (IU (fs.length + 1) n.2)).bind fun s1 => F6 f g (fs ++ [⟨n.1, t.1⟩]) ms s1 else
      bif Ov [O8, Et] p.2 then (WW f p.2).bind fun m => F6 f g fs (ms ++ [m.1]) (IU (ms.length + 1) m.2) else
      F6 f g fs ms (GY 21 p.2)
    else some ((fs, ms), s)
def ACQ (f : Nat) : PM Cl := fun s => (DI [Na] s).bind fun s1 => (Ii 2 s1).bind fun n => (C9 dO n.2).bind fun p => (bif p.1 then Ii 2 p.2 else some ([], p.2)).bind fun u => (DI [J7] u.2).bind fun s2 =>
 (F6 f f [] [] s2).bind fun x => some (⟨n.1, u.1, x.1.1, x.1.2⟩, bif x.2.ok && !decide (x.2.t.kind = 0) then GY 21 x.2 else x.2)
def Ut (f : Nat) : List Tok -> Option (Cl × Nat)
 | [] => none
 | t :: r => (ACQ f ⟨t, r, 0, 0⟩).bind fun p => some (p.1, p.2.e)
end Go.PQ
namespace Go.PQ
open Go.Eng
set_option maxRecDepth 100000
theorem AA9 {e : Option V} {P : V -> Prop} {b : Bool} (h : P (.Gh [])) : Bg (.Gh []) b e P := h
theorem DV {id o l c z i : Nat} (h : (V.sl id o l c z).UY = some i) : i = id := by cases h; rfl
theorem iU {id o l z i : Nat} (h : (V.Nr id o l z).UY = some i) : i = id := by cases h; rfl
inductive Vo (G : AP) (H : Heap) (pb : Nat) (s : S) : Prop where
 | mk {tid off line col : Nat} {cs : D5} (hg : T.get H pb = some (one [.Nr tid off cs.length 5, .int .i64 (.ofNat s.deep) 0, .int .i64 (.ofNat s.e) 0, .int .i64 (.ofNat line) 0, .int .i64 (.ofNat col) 0]))
  (he : El G H (.Nr tid off cs.length 5) 5 cs) (ht : Pw AEh cs (s.t :: s.r)) (hp : s.e ≠ 0 -> 1 <= line /\ 1 <= col) (hl : tid < pb)
section
variable {G : AP} {H H' : Heap} {n n' pb : Nat} {s s' : S} {k : KV}
theorem Vo.same (h : Vo G H pb s) (hs : ∀ id, id <= pb -> T.get H' id = T.get H id) : Vo G H' pb s := by
 cases h with
 | mk hg he ht hp hl => exact .mk ((hs _ (Nat.le_refl _)).trans hg) (he.same fun id hid => by cases hid; exact hs _ (by omega)) ht hp hl
theorem Vo.kp (h : Vo G H pb s) (f : Kp H n H' n') (hb : pb < n) : Vo G H' pb s := h.same fun id hid => f.same id (by omega)
theorem Vo.e (h : Vo G H pb s) : AZ (.ptr pb 2) G H = some (.int .i64 (.ofNat s.e) 0) := by cases h with | mk hg => exact Ah hg rfl
theorem Vo.deep (h : Vo G H pb s) : AZ (.ptr pb 1) G H = some (.int .i64 (.ofNat s.deep) 0) := by cases h with | mk hg => exact Ah hg rfl
theorem Vo.tok (h : Vo G H pb s) : ∃ v tid o line col, AZ (.ptr pb 0) G H = some v /\ BJ 5 v (.int .i64 (.ofNat 0) 0) = some (.ptr tid o) /\ 1 <= line /\ 1 <= col /\ BH 5 (.ptr tid o) G H = some (.agg (QH s.t line col)) /\
    AZ (.ptr tid o) G H = some (.int .i64 (.ofNat s.t.kind) 0) /\ AZ (.ptr tid (o + 1)) G H = some (sB s.t.text) /\ BH 2 (.ptr tid (o + 3)) G H = some (.agg [.int .i64 (.ofNat line) 0, .int .i64 (.ofNat col) 0]) := by
  cases h with
  | mk hg he ht hp hl =>
    rename_i tid off l1 c1 cs
    cases ht with
    | cons h t =>
      rename_i c cs
      obtain ⟨line, col, x1, x2, rfl⟩ := h
      have h2 := AGW he
      have h3 := (N9 _ _ h2).2 0 _ rfl
      rw [Nat.add_zero] at h3
      have sub : ∀ o m, 0 < m -> o + m <= 5 -> ZU H tid (off * 5 + o) m = some (((QH s.t line col).drop o).take m) := fun o m h1 h2 => AD4 h3 rfl h1 h2
      refine ⟨_, tid, off * 5, line, col, Ah hg rfl, ?_, x1, x2, ?_, ?_, ?_, ?_⟩
      · show Aq (band (Nat.beq 5 5) (Nat.blt 0 (cs.length + 1))) (CX ((off + 0) * 5) fun o => some (.ptr tid o)) = _
        rw [show Nat.blt 0 (cs.length + 1) = true by rw [Nat.blt_eq]; omega, BM]; rfl
      · rw [yH]; show LX (ZU H tid (off * 5) 5) _ = _; rw [h3]; rfl
      · rw [oU]; show LX (ZU H tid (off * 5 + 0) 1) _ = _; rw [sub 0 1 (by omega) (by omega)]; rfl
      · rw [oU]; show LX (ZU H tid (off * 5 + 1) 1) _ = _; rw [sub 1 1 (by omega) (by omega)]; rfl
      · rw [yH]; show LX (ZU H tid (off * 5 + 3) 2) _ = _; rw [sub 3 2 (by omega) (by omega)]; rfl
theorem AEt (h : Vo G H pb s) (hk : k (.bool s.ok) H n) : Runs F G DK [.ptr pb 0] H n k := by
 refine BZ (s := Eu (Jh lfp G)) Po (by obtain ⟨h, o⟩ := Vr BX G; rw [Po] at h; cases h; exact o) ?_
 show Jh lfp G (Runs F G) (.ptr pb 0) H n k
 delta Jh
 simp only [go_sem, Nat.reduceAdd, h.e, Q8]
 exact hk
theorem AIA {e : Nat} (h : Vo G H pb s) (hk : ∀ H', Kx pb H n H' n -> Vo G H' pb (GY e s) -> k (.Gh []) H' n) : Runs F G Bh [.ptr pb 0, .int .i64 (.ofNat e) 0] H n k := by
 refine BZ (s := Qd (IW lfp G)) OM (by obtain ⟨h, o⟩ := UW BX G; rw [OM] at h; cases h; exact o) ?_
 show IW lfp G (Runs F G) (.ptr pb 0) (.int .i64 (.ofNat e) 0) H n k
 delta IW
 unfold GY at hk
 simp only [go_sem, Nat.reduceAdd, h.e, Q8]
 rw [show decide (s.e = 0) = s.ok from rfl]
 cases ho : s.ok with
 | false =>
  rw [ho] at hk
  simp only [go_sem]
  exact hk _ (Kx.refl ..) h
 | true =>
  rw [ho] at hk
  obtain ⟨v, tid, o, line, col, e0, e1, x1, x2, e2, e3, e4, e5⟩ := h.tok
  simp only [go_sem, Nat.reduceAdd, Nat.add_zero, e0, e1, e5, AC3]
  cases h with
  | mk hg he ht hp hl =>
   refine D8 hg rfl rfl (by omega) (by show 2 + 3 <= 5; omega) fun H1 g1 s1 => ?_
   exact hk _ ⟨Nat.le_refl _, fun id _ hb => s1 id hb⟩ (.mk g1 (he.same fun id hid => by cases hid; exact s1 _ (by omega)) ht (fun _ => ⟨x1, x2⟩) hl)
def wsC (ws : List Bs) : D5 := ws.map fun w => [sB w]
theorem AEI (ws : List Bs) : (wsC ws).length = ws.length := List.length_map ..
theorem AAC {ws : List Bs} {i : Nat} (h : i < ws.length) : (wsC ws)[i]? = some [sB ws[i]] := by simp [wsC, h]
theorem AP1 {ws : List Bs} {v : V} (h : Vo G H pb s) (hv : El G H v 1 (wsC ws)) (hw : ws.length <= 1000) (hk : k (.bool (Ov ws s)) H n) : Runs F G CU [.ptr pb 0, v] H n k := by
 refine BZ (s := Qd (Jp lfp G)) Pq (by obtain ⟨h, o⟩ := Vz BX G; rw [Pq] at h; cases h; exact o) ?_
 show Jp lfp G (Runs F G) (.ptr pb 0) v H n k
 delta Jp
 unfold Ov at hk
 simp only [go_sem, hv.len, AEI]
 obtain ⟨w, tid, o, line, col, e0, e1, x1, x2, e2, e3, e4, e5⟩ := h.tok
 obtain ⟨R, hR⟩ : ∃ R, (ws.any fun w => PV w s) = R := ⟨_, rfl⟩
 rw [hR] at hk
 refine SN (N := ws.length) (J := fun j q => q = (.ptr pb 0, v, .int .i64 (.ofNat ws.length) 0, .int .i64 (.ofNat j) 0, H, n) /\ ((ws.drop j).any fun w => PV w s) = R) ?_ ?_ ⟨rfl, hR⟩
 ·rintro I j q hlt ⟨rfl, hR⟩ ih
  show Gv lfp G (Runs F G) k I (.ptr pb 0) v (.int .i64 (.ofNat ws.length) 0) (.int .i64 (.ofNat j) 0) H n
  delta Gv
  obtain ⟨p, hp, hld⟩ := hv.at (AAC hlt)
  rw [List.drop_eq_getElem_cons hlt, List.any_cons] at hR
  generalize ws[j] = m at hld hR
  simp only [go_sem, Pz, hlt, decide_true, hp, Zw hld]
  refine AEt h ?_
  have go1 : PV m s = false -> I (.ptr pb 0, v, .int .i64 (.ofNat ws.length) 0, .int .i64 (.ofNat (j + 1)) 0, H, n) := fun h1 => by
   rw [h1, Bool.false_or] at hR
   exact ih _ ⟨rfl, hR⟩
  have ej := La (show j + 1 < 9223372036854775808 by omega)
  cases h1 : s.ok with
  | false =>
   repeat (first | with_reducible refine sH ?_ | with_reducible refine AA9 ?_ | with_reducible refine vV ?_)
   simp only [go_sem, ej]
   exact go1 (by simp [PV, h1])
  | true =>
   simp only [go_sem, Nat.reduceAdd, Nat.add_zero, e0, e1, e3, Q8]
   cases h2 : decide (s.t.kind = 1) with
   | true =>
    repeat (first | with_reducible refine AMO ?_ | with_reducible refine AA9 ?_)
    simp only [go_sem, Nat.reduceAdd, Nat.add_zero, e0, e1, e4, yh]
    cases h3 : decide (s.t.text = m) with
    | true =>
     rw [show PV m s = true by simp [PV, h1, h2, h3], Bool.true_or] at hR
     subst hR
     simp only [go_sem]; exact hk
    | false => simp only [go_sem, ej]; exact go1 (by simp [PV, h3])
   | false =>
    simp only [go_sem, Nat.reduceAdd, Nat.add_zero, e0, e1, e3, Q8]
    cases h4 : decide (s.t.kind = 5) with
    | true =>
     simp only [go_sem, Nat.reduceAdd, Nat.add_zero, e0, e1, e4, yh]
     cases h3 : decide (s.t.text = m) with
     | true =>
      rw [show PV m s = true by simp [PV, h1, h4, h3], Bool.true_or] at hR
      subst hR
      simp only [go_sem]; exact hk
     | false => simp only [go_sem, ej]; exact go1 (by simp [PV, h3])
    | false =>
     repeat (first | with_reducible refine sH ?_ | with_reducible refine AA9 ?_ | with_reducible refine vV ?_ | with_reducible refine AQg ?_)
     simp only [go_sem, ej]; exact go1 (by simp [PV, h2, h4])
 ·rintro I q ⟨rfl, hR⟩
  show Gv lfp G (Runs F G) k I (.ptr pb 0) v (.int .i64 (.ofNat ws.length) 0) (.int .i64 (.ofNat ws.length) 0) H n
  delta Gv
  rw [List.drop_eq_nil_of_le (Nat.le_refl _)] at hR
  subst hR
  simp only [go_sem, Pz, Nat.lt_irrefl, decide_false]
  delta Nv
  exact hk
theorem AFr {l : LV} {i : Nat} {v : V} (h : l[i]? = some v) : AFz i (.agg l) = some v := by
 show nth l i = _
 rw [Yn, h]
structure Fr (G : AP) (pb : Nat) (H0 : Heap) (n0 : Nat) (H : Heap) (n : Nat) (s : S) : Prop where
 f : Kx pb H0 n0 H n
 p : Vo G H pb s
 b : pb < n0
theorem Fr.lt {H0 : Heap} {n0 : Nat} (x : Fr G pb H0 n0 H n s) : pb < n := Nat.lt_of_lt_of_le x.b x.f.le
theorem Fr.le {H0 : Heap} {n0 : Nat} (x : Fr G pb H0 n0 H n s) : n0 <= n := x.f.le
theorem Fr.refl (h : Vo G H pb s) (hb : pb < n) : Fr G pb H n H n s := ⟨Kx.refl .., h, hb⟩
theorem Fr.al {H0 : Heap} {n0 : Nat} (x : Fr G pb H0 n0 H n s) (f : Kp H n H' n') : Fr G pb H0 n0 H' n' s := ⟨x.f.trans f.kx, x.p.kp f x.lt, x.b⟩
theorem Fr.st {H0 : Heap} {n0 b : Nat} (x : Fr G pb H0 n0 H n s) (hb : n0 <= b) (e : ∀ j, j ≠ b -> T.get H' j = T.get H j) : Fr G pb H0 n0 H' n s :=
 ⟨⟨x.f.le, fun id hid hp => (e id (by omega)).trans (x.f.same id hid hp)⟩, x.p.same fun id hid => e id (by have := x.b; omega), x.b⟩
theorem Fr.tr {H0 : Heap} {n0 : Nat} (x : Fr G pb H0 n0 H n s) (y : Fr G pb H n H' n' s') : Fr G pb H0 n0 H' n' s' := ⟨x.f.trans y.f, y.p, x.b⟩
theorem Fr.get {b : Nat} {L : LV} (y : Fr G pb H n H' n' s') (g : T.get H b = some (one L)) (h1 : b < n) (h2 : pb < b) : T.get H' b = some (one L) := y.f.get g h1 (by omega)
theorem Bo {m b : Nat} {L0 L : LV} {P : KV} (g : T.get H b = some (one L0)) (h0 : L0.length = m) (h1 : L.length = m) (hm : 0 < m) (h : ∀ H', T.get H' b = some (one L) -> (∀ j, j ≠ b -> T.get H' j = T.get H j) -> P .undef H' n) :
    Bj m (.ptr b 0) (.agg L) H n P := by
  rw [VO g hm h0 h1]; exact h _ (T.Ap ..) fun j hj => T.Am _ _ (Ne.symm hj)
theorem XH (h : Vo G H pb s) (hb : pb < n) (hm : LY s = some s') (hk : ∀ H' n' line col, 1 <= line -> 1 <= col -> Fr G pb H n H' n' s' -> k (.agg (QH s.t line col)) H' n') : Runs F G CB [.ptr pb 0] H n k := by
  refine BZ (s := Eu (Ia lfp G)) Nz (by obtain ⟨h, o⟩ := TQ BX G; rw [Nz] at h; cases h; exact o) ?_
  show Ia lfp G (Runs F G) (.ptr pb 0) H n k
  delta Ia
  have x := Fr.refl h hb
  refine A8 rfl fun H1 f1 g1 => ?_
  have x := x.al f1
  obtain ⟨v, tid, o, line, col, e0, e1, x1, x2, e2, e3, e4, e5⟩ := x.p.tok
  simp only [go_sem, Nat.reduceAdd, Nat.add_zero, e0, e1, e2]
  refine AQD rfl rfl (by omega) fun H3 f3 g3 => ?_
  have x := x.al f3
  have g1 := f3.get g1 (by omega)
  have q0 : AZ (.ptr (n + 1) 0) G H3 = some (.int .i64 (.ofNat s.t.kind) 0) := Ah g3 rfl
  have fin : ∀ {H4 : Heap}, Fr G pb H n H4 (n + 1 + 1) s' -> T.get H4 n = some (one [.int .i64 (.ofNat 0) 0, .str 0 0, .int .i64 (.ofNat 0) 0, .int .i64 (.ofNat 0) 0, .int .i64 (.ofNat 0) 0]) -> T.get H4 (n + 1) = some (one (QH s.t line col)) ->
      Fj lfp G (Runs F G) k (.ptr n 0) (.ptr (n + 1) 0) H4 (n + 1 + 1) := by
    intro H4 x g1 g3
    delta Fj
    rw [Aj (m := 5) g3 (by omega) rfl, Au]
    refine Bo g1 rfl rfl (by omega) fun H5 g5 s5 => ?_
    rw [BL (m := 5) g5 (by omega) rfl]
    simp only [go_sem]
    exact hk _ _ _ _ x1 x2 (x.st (Nat.le_refl _) s5)
  unfold LY at hm
  simp only [go_sem, Nat.reduceAdd, q0, eY]
  cases hd : decide (s.t.kind = 0) with
  | true =>
    rw [hd] at hm
    cases hm
    simp only [Bool.not_true, go_sem]
    exact fin x g1 g3
  | false =>
    rw [hd, cond_false] at hm
    simp only [Bool.not_false, go_sem]
    have hp3 := x.p
    cases hp3 with
    | mk hg he ht hp hl =>
      rename_i tid off l1 c1 cs
      cases hr : s.r with
      | nil => rw [hr] at hm; cases hm
      | cons t r =>
        rw [hr] at hm ht
        cases hm
        cases ht with
        | cons ha ht =>
          rename_i a cs
          have e0 : AZ (.ptr pb 0) G H3 = some (.Nr tid off (cs.length + 1) 5) := Ah hg rfl
          simp only [go_sem, Nat.reduceAdd, e0, AKF]
          refine D8 hg rfl rfl (by omega) (by show 0 + 1 <= 5; omega) fun H4 g4 s4 => ?_
          refine fin ⟨⟨x.le, fun id hid hp => (s4 id hp).trans (x.f.same id hid hp)⟩, ?_, hb⟩ ((s4 _ (by omega)).trans g1) ((s4 _ (by omega)).trans g3)
          exact .mk (s := { s with t := t, r := r }) g4 ((AGU he).same fun id hid => by cases iU hid; exact s4 _ (by omega)) ht hp hl
end
end Go.PQ
namespace Go.PQ
open Go.Eng
set_option maxRecDepth 100000
section
variable {G : AP} {H : Heap} {n pb : Nat} {s s' : S} {k : KV}
theorem dw {ws : List Bs} {m : Nat} {P : KV} {Z : LV} (hm : ws.length = m) (h : ∀ H', Kp H n H' (n + 1) -> El G H' (.sl n 0 m m 1) 1 (wsC ws) -> P (.sl n 0 m m 1) H' (n + 1)) : CY (Ag 1 m Z (sO 0 (ws.map sB)) E0) H n P := by
 refine LZ (G := G) (vs := ws.map sB) (by rw [List.length_map]; exact hm) (by omega) (fun v hv => ?_) fun H' f _ hel => h H' f ?_
 ·obtain ⟨w, _, rfl⟩ := List.mem_map.1 hv; exact ⟨rfl, rfl⟩
 ·rw [List.map_map] at hel; exact hel
theorem gB {ws : List Bs} {m : Nat} {P : KV} {Z : LV} (h : Vo G H pb s) (hb : pb < n) (hm : ws.length = m) (hw : ws.length <= 1000) (hk : ∀ H' n', Fr G pb H n H' n' s -> P (.bool (Ov ws s)) H' n') :
    CY (Ag 1 m Z (sO 0 (ws.map sB)) E0) H n fun v H n => Runs F G CU [.ptr pb 0, v] H n P := by
  refine dw (G := G) hm fun H1 f1 hel => ?_
  have x := (Fr.refl h hb).al f1
  exact AP1 x.p hel hw (hk _ _ x)
theorem Kv {w : Bs} {b : Bool} (h : Vo G H pb s) (hb : pb < n) (hm : C9 w s = some (b, s')) (hk : ∀ H' n', Fr G pb H n H' n' s' -> k (.bool b) H' n') : Runs F G Aa [.ptr pb 0, sB w] H n k := by
 refine BZ (s := Qd (Hz lfp G)) OV (by obtain ⟨h, o⟩ := TG BX G; rw [OV] at h; cases h; exact o) ?_
 show Hz lfp G (Runs F G) (.ptr pb 0) (sB w) H n k
 delta Hz
 refine gB (ws := [w]) h hb rfl (by show 1 <= 1000; omega) fun H1 n1 x => ?_
 unfold C9 at hm
 rw [show Ov [w] s = PV w s by simp [Ov]]
 cases ho : PV w s with
 | false =>
  rw [ho] at hm
  cases hm
  simp only [go_sem, QW, Bool.not_false]
  exact hk _ _ x
 | true =>
  rw [ho, cond_true, Option.bind_eq_some_iff] at hm
  obtain ⟨s2, h2, hm⟩ := hm
  cases hm
  simp only [go_sem, QW, Bool.not_true]
  exact XH x.p x.lt h2 fun H2 n2 _ _ _ _ y => hk _ _ (x.tr y)
theorem ALg {ws : List Bs} {id o l c : Nat} (h : Vo G H pb s) (hb : pb < n) (hv : El G H (.sl id o l c 1) 1 (wsC ws)) (hid : id < n) (hip : pb < id) (hw : ws.length <= 1000) (hm : DI ws s = some s') (hk : ∀ H' n', Fr G pb H n H' n' s' -> k (.Gh []) H' n') :
    Runs F G Ar [.ptr pb 0, .sl id o l c 1] H n k := by
  refine BZ (s := Qd (IJ lfp G)) OC (by obtain ⟨h, o⟩ := UH BX G; rw [OC] at h; cases h; exact o) ?_
  show IJ lfp G (Runs F G) (.ptr pb 0) (.sl id o l c 1) H n k
  delta IJ
  simp only [hv.len, AEI, go_sem]
  refine SN (N := ws.length) (J := fun j q => ∃ H' n' t, q = (.ptr pb 0, .sl id o l c 1, .int .i64 (.ofNat ws.length) 0, .int .i64 (.ofNat j) 0, H', n') /\ Fr G pb H n H' n' t /\ DI (ws.drop j) t = some s') ?_ ?_ ⟨H, n, s, rfl, Fr.refl h hb, hm⟩
  · rintro I j q hlt ⟨H1, n1, t, rfl, x, hm⟩ ih
    show Fb lfp G (Runs F G) k I (.ptr pb 0) (.sl id o l c 1) (.int .i64 (.ofNat ws.length) 0) (.int .i64 (.ofNat j) 0) H1 n1
    delta Fb
    have hv1 : El G H1 (.sl id o l c 1) 1 (wsC ws) := hv.same fun i hi => by cases DV hi; exact x.f.same id hid (by omega)
    obtain ⟨p, hp, hld⟩ := hv1.at (AAC hlt)
    rw [List.drop_eq_getElem_cons hlt, show ∀ (w : Bs) ws (s : S), DI (w :: ws) s = (C9 w s).bind fun p => DI ws (bif p.1 then p.2 else GY 21 p.2) from fun _ _ _ => rfl, Option.bind_eq_some_iff] at hm
    obtain ⟨⟨b, t2⟩, h2, hm⟩ := hm
    have hm : DI (ws.drop (j + 1)) (bif b then t2 else GY 21 t2) = some s' := hm
    generalize ws[j] = m at hld h2
    simp only [go_sem, Pz, hlt, decide_true, hp, Zw hld]
    refine Kv x.p x.lt h2 fun H2 n2 y => ?_
    have x := x.tr y
    simp only [go_sem, QW]
    cases b with
    | true =>
      simp only [go_sem, Bool.not_true]
      delta FP
      simp only [go_sem, La (show j + 1 < 9223372036854775808 by omega)]
      exact ih _ ⟨_, _, _, rfl, x, hm⟩
    | false =>
      simp only [go_sem, Bool.not_false]
      refine AIA x.p fun H3 f3 p3 => ?_
      delta FP
      simp only [go_sem, La (show j + 1 < 9223372036854775808 by omega)]
      exact ih _ ⟨_, _, _, rfl, ⟨x.f.trans f3, p3, x.b⟩, hm⟩
  · rintro I q ⟨H1, n1, t, rfl, x, hm⟩
    show Fb lfp G (Runs F G) k I (.ptr pb 0) (.sl id o l c 1) (.int .i64 (.ofNat ws.length) 0) (.int .i64 (.ofNat ws.length) 0) H1 n1
    delta Fb
    rw [List.drop_eq_nil_of_le (Nat.le_refl _)] at hm
    cases hm
    simp only [go_sem, Pz, Nat.lt_irrefl, decide_false]
    exact hk _ _ x
theorem JC {ws : List Bs} {m : Nat} {P : KV} {Z : LV} (h : Vo G H pb s) (hb : pb < n) (hm : ws.length = m) (hw : ws.length <= 1000) (he : DI ws s = some s') (hk : ∀ H' n', Fr G pb H n H' n' s' -> P (.Gh []) H' n') :
    CY (Ag 1 m Z (sO 0 (ws.map sB)) E0) H n fun v H n => Runs F G Ar [.ptr pb 0, v] H n P := by
  refine dw (G := G) hm fun H1 f1 hel => ?_
  have x := (Fr.refl h hb).al f1
  exact ALg x.p x.lt hel (by omega) hb hw he fun H2 n2 y => hk _ _ (x.tr y)
theorem Yl {e : Nat} (h : Vo G H pb s) (hb : pb < n) (hk : ∀ H' n', Fr G pb H n H' n' (GY e s) -> k (.Gh []) H' n') : Runs F G Bh [.ptr pb 0, .int .i64 (.ofNat e) 0] H n k :=
 AIA h fun H1 f p => hk _ _ ⟨f, p, hb⟩
theorem XI {kd : Nat} {l : Bs} (h : Vo G H pb s) (hb : pb < n) (hm : Ii kd s = some (l, s')) (hk : ∀ H' n', Fr G pb H n H' n' s' -> k (sB l) H' n') : Runs F G CW [.ptr pb 0, .int .i64 (.ofNat kd) 0] H n k := by
 refine BZ (s := Qd (Ih lfp G)) OE (by obtain ⟨h, o⟩ := UN BX G; rw [OE] at h; cases h; exact o) ?_
 show Ih lfp G (Runs F G) (.ptr pb 0) (.int .i64 (.ofNat kd) 0) H n k
 delta Ih
 refine AEt h ?_
 unfold Ii at hm
 have bad : Ii kd s = some ([], GY 21 s) -> Runs F G Bh [.ptr pb 0, .int .i64 (.ofNat 21) 0] H n fun _ H n => k (.str 0 0) H n := fun hb' => by
  unfold Ii at hb'
  rw [hb'] at hm
  cases hm
  exact Yl h hb fun H1 n1 x => hk _ _ x
 have good : (LY s).bind (fun s' => some (s.t.text, s')) = some (l, s') -> Runs F G CB [.ptr pb 0] H n fun v14 H n => AU (AFz 1 v14) fun v15 => k v15 H n := fun hm => by
  rw [Option.bind_eq_some_iff] at hm
  obtain ⟨s2, h2, hm⟩ := hm
  cases hm
  refine XH h hb h2 fun H2 n2 line col _ _ y => ?_
  rw [AFr (show (QH s.t line col)[1]? = some (sB s.t.text) from rfl), Au]
  exact hk _ _ y
 obtain ⟨v, tid, o, line, col, e0, e1, x1, x2, e2, e3, e4, e5⟩ := h.tok
 cases ho : s.ok with
 | false =>
  simp only [QW, Bool.not_false, go_sem]
  repeat (first | with_reducible refine AMO ?_ | with_reducible refine AA9 ?_)
  exact bad (by unfold Ii; rw [ho]; rfl)
 | true =>
  simp only [QW, Bool.not_true, go_sem, Nat.reduceAdd, Nat.add_zero, e0, e1, e3, eY]
  cases hd : decide (s.t.kind = kd) with
  | false =>
   simp only [Bool.not_false, go_sem]
   exact bad (by unfold Ii; rw [ho, hd]; rfl)
  | true =>
   rw [ho, hd] at hm
   simp only [Bool.not_true, go_sem]
   exact good hm
theorem zW (h : Vo G H pb s) (hb : pb < n) (hm : Ro s = some s') (hk : ∀ H' n' q, Fr G pb H n H' n' s' -> n <= q -> q < n' -> T.get H' q = some (one [.ptr pb 0]) -> k (.fn CV [] [.ptr q 0]) H' n') : Runs F G IL [.ptr pb 0] H n k := by
 refine BZ (s := Eu (IV lfp G)) N7 (by obtain ⟨h, o⟩ := Tc BX G; rw [N7] at h; cases h; exact o) ?_
 show IV lfp G (Runs F G) (.ptr pb 0) H n k
 delta IV
 have x := Fr.refl h hb
 refine AEB rfl fun H1 f1 g1 => ?_
 have x := x.al f1
 have g1 : T.get H1 n = some (one [.ptr pb 0]) := g1
 have q1 : AZ (.ptr n 0) G H1 = some (.ptr pb 0) := Ah g1 rfl
 unfold Ro at hm
 cases hd : decide (s.deep < 1000000) with
 | false => rw [hd] at hm; cases hm
 | true =>
  rw [hd, cond_true] at hm
  have hd := of_decide_eq_true hd
  simp only [go_sem, Nat.reduceAdd, q1, x.p.deep, La (show s.deep + 1 < 9223372036854775808 by omega)]
  have hp1 := x.p
  cases hp1 with
  | mk hg he ht hp hl =>
   refine D8 hg rfl rfl (by omega) (by show 1 + 1 <= 5; omega) fun H2 g2 s2 => ?_
   have q1 : AZ (.ptr n 0) G H2 = some (.ptr pb 0) := Ah ((s2 n (by omega)).trans g1) rfl
   have p2 : Vo G H2 pb { s with deep := s.deep + 1 } := .mk (s := { s with deep := s.deep + 1 }) g2 (he.same fun id hid => by cases iU hid; exact s2 _ (by omega)) ht hp hl
   have x : Fr G pb H n H2 (n + 1) { s with deep := s.deep + 1 } := ⟨⟨x.le, fun id hid hp => (s2 id hp).trans (x.f.same id hid hp)⟩, p2, hb⟩
   have e2 : AZ (.ptr pb 1) G H2 = some (.int .i64 (.ofNat (s.deep + 1)) 0) := p2.deep
   simp only [go_sem, Nat.reduceAdd, q1, e2, fZ]
   cases h100 : decide (100 < s.deep + 1) with
   | false =>
    rw [h100] at hm
    cases hm
    simp only [go_sem]
    delta FQ
    exact hk _ _ n x (Nat.le_refl _) (by omega) ((s2 n (by omega)).trans g1)
   | true =>
    rw [h100] at hm
    cases hm
    simp only [go_sem, q1]
    refine Yl x.p x.lt fun H3 n3 y => ?_
    delta FQ
    exact hk _ _ n (x.tr y) (Nat.le_refl _) (by have := y.le; omega) (y.get ((s2 n (by omega)).trans g1) (by omega) hb)
theorem AJw {q : Nat} {P : Heap -> Nat -> Prop} (h : Vo G H pb s) (hb : pb < n) (hq : T.get H q = some (one [.ptr pb 0])) (hm : bM s = some s') (hk : ∀ H' n', Fr G pb H n H' n' s' -> P H' n') :
    Js 95 (cZ (.Gh [.fn CV [] [.ptr q 0]])) (Runs F G) H n P := by
  show Gn (Nat.beq CV 95) (Runs F G CV [.ptr q 0] H n fun _ H n => P H n)
  rw [show Nat.beq CV 95 = true from rfl, aB]
  generalize hk' : (fun _ H n => P H n : KV) = k
  refine BZ (s := Eu (GK lfp G)) Di (by obtain ⟨h, o⟩ := Qv BX G; rw [Di] at h; cases h; exact o) ?_
  show GK lfp G (Runs F G) (.ptr q 0) H n k
  delta GK
  subst hk'
  unfold bM at hm
  cases hd : s.deep with
  | zero => rw [hd] at hm; cases hm
  | succ d =>
    rw [hd] at hm
    have hm : (bif decide (d < 1000000) then some { s with deep := d } else none) = some s' := hm
    cases hlt : decide (d < 1000000)
    · rw [hlt] at hm; cases hm
    rw [hlt, cond_true] at hm
    have hlt := of_decide_eq_true hlt
    cases hm
    have q1 : AZ (.ptr q 0) G H = some (.ptr pb 0) := Ah hq rfl
    have q2 := h.deep
    rw [hd] at q2
    have hbig : d + 1 < 9223372036854775808 := by omega
    simp only [go_sem, Nat.reduceAdd, q1, q2, AM2 hbig]
    cases h with
    | mk hg he ht hp hl =>
      refine D8 hg rfl rfl (by omega) (by show 1 + 1 <= 5; omega) fun H2 g2 s2 => ?_
      exact hk _ _ ⟨⟨Nat.le_refl _, fun id hid hp => s2 id hp⟩, .mk (s := { s with deep := d }) g2 (he.same fun id hid => by cases iU hid; exact s2 _ (by omega)) ht hp hl, hb⟩
def tyC (t : Ty) : LV := [sB t.nm, .bool t.arr]
theorem AHA {z0 z1 : V} (l : Bs) : BR [z0, z1] [(0, 1, .c (sB l))] = some (.agg [sB l, z1]) := rfl
theorem tZ {l : Bs} (hk : ∀ H', Kp H n H' (n + 1) -> k (.agg [sB l, .bool false]) H' (n + 1)) : Runs F G jY [sB l] H n k := by
 refine BZ (s := Eu (aQ lfp G)) mM (by obtain ⟨h, o⟩ := wz BX G; rw [mM] at h; cases h; exact o) ?_
 show aQ lfp G (Runs F G) (sB l) H n k
 delta aQ
 simp only [go_sem, AHA]
 exact hk _ (((Kp.refl H n).new (m := n + 1) _ (Nat.le_refl _) (by omega)).new _ (Nat.le_refl _) (Nat.le_refl _))
theorem AFD (hk : ∀ H', Kp H n H' (n + 1) -> k (.agg [sB I4, .bool false]) H' (n + 1)) : Runs F G xk [] H n k := by
 refine BZ (s := ar0 (YA lfp G)) jA (by obtain ⟨h, o⟩ := rY BX G; rw [jA] at h; cases h; exact o) ?_
 show YA lfp G (Runs F G)  H n k
 delta YA
 simp only [AGk, go_sem, AHA]
 exact hk _ (((Kp.refl H n).new (m := n + 1) _ (Nat.le_refl _) (by omega)).new _ (Nat.le_refl _) (Nat.le_refl _))
theorem ADW (hk : ∀ H', Kp H n H' (n + 1) -> k (.agg [sB iw, .bool false]) H' (n + 1)) : Runs F G tK [] H n k := by
 refine BZ (s := ar0 (Vk lfp G)) bC (by obtain ⟨h, o⟩ := qA BX G; rw [bC] at h; cases h; exact o) ?_
 show Vk lfp G (Runs F G)  H n k
 delta Vk
 simp only [ADJ, go_sem, AHA]
 exact hk _ (((Kp.refl H n).new (m := n + 1) _ (Nat.le_refl _) (by omega)).new _ (Nat.le_refl _) (Nat.le_refl _))
theorem AAk {m : Nat} (h : Vo G H pb s) (hb : pb < n) (hk : ∀ H' n', Fr G pb H n H' n' (IU m s) -> k (.Gh []) H' n') : Runs F G IC [.ptr pb 0, .int .i64 (.ofNat m) 0] H n k := by
 refine BZ (s := Qd (Ic lfp G)) Ns (by obtain ⟨h, o⟩ := TD BX G; rw [Ns] at h; cases h; exact o) ?_
 show Ic lfp G (Runs F G) (.ptr pb 0) (.int .i64 (.ofNat m) 0) H n k
 delta Ic
 unfold IU at hk
 simp only [go_sem, fZ]
 cases hd : decide (200 < m) with
 | false => rw [hd] at hk; simp only [go_sem]; exact hk _ _ (Fr.refl h hb)
 | true => rw [hd] at hk; simp only [go_sem]; exact Yl h hb hk
theorem AHf {t : Ty} (h : Vo G H pb s) (hb : pb < n) (hm : ABM s = some (t, s')) (hk : ∀ H' n', Fr G pb H n H' n' s' -> k (.agg (tyC t)) H' n') : Runs F G O3 [.ptr pb 0] H n k := by
 refine BZ (s := Eu (IG lfp G)) N8 (by obtain ⟨h, o⟩ := TA BX G; rw [N8] at h; cases h; exact o) ?_
 show IG lfp G (Runs F G) (.ptr pb 0) H n k
 delta IG
 have x := Fr.refl h hb
 refine A8 rfl fun H1 f1 g1 => ?_
 have x := x.al f1
 unfold ABM at hm
 rw [Option.bind_eq_some_iff] at hm
 obtain ⟨⟨b, s2⟩, h2, hm⟩ := hm
 have hm : (bif b then some (⟨I4, false⟩, s2) else (C9 iw s2).bind fun p => bif p.1 then some (⟨iw, false⟩, p.2) else (Ii 2 p.2).bind fun p => some (⟨p.1, false⟩, p.2)) = some (t, s') := hm
 rw [AGk, ADJ]
 have fin : ∀ {H2 : Heap} {n2 : Nat} {l : Bs}, Fr G pb H n H2 n2 s' -> T.get H2 n = some (one [.str 0 0, .bool false]) -> t = ⟨l, false⟩ -> Bj 2 (.ptr n 0) (.agg [sB l, .bool false]) H2 n2 fun v4 H n_1 => FN (BQ [.cn (.ptr n 0) 2] G H) fun l => k (FB l) H n_1 := by
  intro H2 n2 l x g ht
  subst ht
  refine Bo g rfl rfl (by omega) fun H3 g3 s3 => ?_
  rw [BL (m := 2) g3 (by omega) rfl]
  simp only [go_sem]
  exact hk _ _ (x.st (Nat.le_refl _) s3)
 refine Kv x.p x.lt h2 fun H2 n2 y => ?_
 have x := x.tr y
 have g1 := y.get g1 (by omega) hb
 cases b with
 | true =>
  cases hm
  simp only [go_sem]
  exact AFD fun H3 f3 => fin (x.al f3) (f3.get g1 (by have := y.le; omega)) rfl
 | false =>
  rw [cond_false, Option.bind_eq_some_iff] at hm
  obtain ⟨⟨b, s3⟩, h3, hm⟩ := hm
  simp only [go_sem]
  have hn := y.le
  refine Kv x.p x.lt h3 fun H3 n3 y => ?_
  have x := x.tr y
  have g1 := y.get g1 (by omega) hb
  have hn2 := y.le
  cases b with
  | true =>
   cases hm
   simp only [go_sem]
   exact ADW fun H3 f3 => fin (x.al f3) (f3.get g1 (by omega)) rfl
  | false =>
   rw [cond_false, Option.bind_eq_some_iff] at hm
   obtain ⟨⟨l, s4⟩, h4, hm⟩ := hm
   cases hm
   simp only [go_sem]
   refine XI x.p x.lt h4 fun H4 n4 y => ?_
   have x := x.tr y
   have g1 := y.get g1 (by omega) hb
   have hn3 := y.le
   exact tZ fun H3 f3 => fin (x.al f3) (f3.get g1 (by omega)) rfl
theorem AEf {t : Ty} (h : Vo G H pb s) (hb : pb < n) (hm : lS s = some (t, s')) (hk : ∀ H' n', Fr G pb H n H' n' s' -> k (.agg (tyC t)) H' n') : Runs F G JB [.ptr pb 0] H n k := by
 refine BZ (s := Eu (I8 lfp G)) Oy (by obtain ⟨h, o⟩ := U9 BX G; rw [Oy] at h; cases h; exact o) ?_
 show I8 lfp G (Runs F G) (.ptr pb 0) H n k
 delta I8
 have x := Fr.refl h hb
 refine A8 rfl fun H1 f1 g1 => ?_
 have x := x.al f1
 unfold lS at hm
 rw [Option.bind_eq_some_iff] at hm
 obtain ⟨⟨t1, s2⟩, h2, hm⟩ := hm
 rw [Option.bind_eq_some_iff] at hm
 obtain ⟨⟨b, s3⟩, h3, hm⟩ := hm
 have hm : (bif b then (DI [lQ] s3).bind fun s => some ((⟨t1.nm, true⟩ : Ty), s) else some (t1, s3)) = some (t, s') := hm
 refine AHf x.p x.lt h2 fun H2 n2 y => ?_
 have x := x.tr y
 have g1 := y.get g1 (by omega) hb
 have hn := y.le
 refine A8 rfl fun H3 f3 g3 => ?_
 have x := x.al f3
 have g1 := f3.get g1 (by omega)
 refine Bo (L := tyC t1) g3 rfl rfl (by omega) fun H4 g3 s4 => ?_
 have x := x.st (by omega) s4
 have g1 := (s4 n (by omega)).trans g1
 have fin : ∀ {H5 : Heap} {n5 : Nat}, Fr G pb H n H5 n5 s' -> T.get H5 n = some (one [.str 0 0, .bool false]) -> T.get H5 n2 = some (one (tyC t)) -> GN lfp G (Runs F G) k (.ptr n 0) (.ptr n2 0) H5 n5 := by
  intro H5 n5 x g1 g3
  delta GN
  rw [Aj (m := 2) g3 (by omega) rfl, Au]
  refine Bo g1 rfl rfl (by omega) fun H6 g6 s6 => ?_
  rw [BL (m := 2) g6 (by omega) rfl]
  simp only [go_sem]
  exact hk _ _ (x.st (Nat.le_refl _) s6)
 rw [ASE]
 refine Kv x.p x.lt h3 fun H5 n5 y => ?_
 have x := x.tr y
 have g1 := y.get g1 (by omega) hb
 have g3 := y.get g3 (by omega) (by omega)
 have hn5 := y.le
 cases b with
 | false =>
  cases hm
  simp only [go_sem]
  exact fin x g1 g3
 | true =>
  rw [cond_true, Option.bind_eq_some_iff] at hm
  obtain ⟨s4, h4, hm⟩ := hm
  cases hm
  simp only [go_sem]
  refine JC (ws := [lQ]) x.p x.lt rfl (by show 1 <= 1000; omega) h4 fun H6 n6 y => ?_
  have x := x.tr y
  have g1 := y.get g1 (by omega) hb
  have g3 := y.get g3 (by omega) (by omega)
  refine D8 g3 rfl rfl (by omega) (by show 1 + 1 <= 2; omega) fun H7 g7 s7 => ?_
  exact fin (x.st (by omega) s7) ((s7 n (by omega)).trans g1) g7
end
end Go.PQ
namespace Go.PQ
open Go.Eng
set_option maxRecDepth 100000
def qc (kind num : Nat) (nm ty : Bs) (arr : Bool) (line col : Nat) (v : V) : LV :=
 [.int .i64 (.ofNat kind) 0, .int .i64 (.ofNat line) 0, .int .i64 (.ofNat col) 0, .int .i64 (.ofNat num) 0, sB nm, sB ty, .bool arr, v, .str 0 0, .bool false, .str 0 0]
mutual
inductive DW (G : AP) (H : Heap) (A : Nat -> Prop) : LV -> Ex -> Prop where
 | mk (kind num : Nat) (nm ty : Bs) (arr : Bool) (line col : Nat) {v : V} {cs : D5} {kids : List Ex} (he : El G H v 11 cs) (hv : KO v v = true) (ha : ∀ id, v.UY = some id -> A id) (hc : QF G H A cs kids) :
  DW G H A (qc kind num nm ty arr line col v) (.mk kind num nm ty arr kids)
inductive QF (G : AP) (H : Heap) (A : Nat -> Prop) : D5 -> List Ex -> Prop where
 | nil : QF G H A [] []
 | cons {c : LV} {e : Ex} {cs : D5} {es : List Ex} (h : DW G H A c e) (t : QF G H A cs es) : QF G H A (c :: cs) (e :: es)
end
mutual
theorem DW.mono {G : AP} {H H' : Heap} {A B : Nat -> Prop} (hA : ∀ id, A id -> B id) (hs : ∀ id, A id -> T.get H' id = T.get H id) : ∀ {c : LV} {e : Ex}, DW G H A c e -> DW G H' B c e
 | _, _, .mk kind num nm ty arr line col he hv ha hc => .mk kind num nm ty arr line col (he.same fun id hid => hs id (ha id hid)) hv (fun id hid => hA id (ha id hid)) (QF.mono hA hs hc)
theorem QF.mono {G : AP} {H H' : Heap} {A B : Nat -> Prop} (hA : ∀ id, A id -> B id) (hs : ∀ id, A id -> T.get H' id = T.get H id) : ∀ {cs : D5} {es : List Ex}, QF G H A cs es -> QF G H' B cs es
 | _, _, .nil => .nil
 | _, _, .cons h t => .cons (DW.mono hA hs h) (QF.mono hA hs t)
end
theorem QF.app {G : AP} {H : Heap} {A : Nat -> Prop} : ∀ {cs : D5} {es : List Ex} {cs' : D5} {es' : List Ex}, QF G H A cs es -> QF G H A cs' es' -> QF G H A (cs ++ cs') (es ++ es')
 | _, _, _, _, .nil, h => h
 | _, _, _, _, .cons h t, h' => .cons h (t.app h')
theorem QF.len {G : AP} {H : Heap} {A : Nat -> Prop} : ∀ {cs : D5} {es : List Ex}, QF G H A cs es -> cs.length = es.length
 | _, _, .nil => rfl
 | _, _, .cons h t => by simp [t.len]
theorem nK (q : IntKind) (a : Int) : KO (.int q a 0) (.int q a 0) = true := by simp [KO, AEe, BU, SI, Qb]
theorem ACe (l c : Nat) : KO (.str l c) (.str l c) = true := by simp [KO, AEa, BU]
theorem ADe (b : Bool) : KO (.bool b) (.bool b) = true := by cases b <;> rfl
theorem XE (a b c d e : Nat) : KO (.sl a b c d e) (.sl a b c d e) = true := by simp [KO, AIq, BU]
theorem zN (a b c d : Nat) : KO (.Nr a b c d) (.Nr a b c d) = true := by simp [KO, AER, BU]
theorem AJR : KO .Ae .Ae = true := rfl
theorem vsL : ∀ L : LV, (∀ v ∈ L, KO v v = true) -> oC L L = true
 | [], _ => rfl
 | v :: L, h => by
  show band (KO v v) (oC L L) = true
  rw [h v (List.mem_cons_self ..), vsL L fun w hw => h w (List.mem_cons_of_mem _ hw)]; rfl
theorem AAS {L : LV} (h : ∀ v ∈ L, KO v v = true) : Cj (.agg L) (.agg L) = true := vsL L h
theorem Uh (line col : Nat) : Cj (.agg [.int .i64 (.ofNat line) 0, .int .i64 (.ofNat col) 0]) (.agg [.int .i64 (.ofNat line) 0, .int .i64 (.ofNat col) 0]) = true :=
 AAS fun v hv => by simp at hv; rcases hv with rfl | rfl <;> exact nK ..
theorem Rq (l : Bs) : Cj (sB l) (sB l) = true := ACe ..
section
variable {G : AP} {H : Heap} {A : Nat -> Prop} {c : LV} {e : Ex}
theorem DW.len (h : DW G H A c e) : c.length = 11 := by cases h; rfl
theorem DW.kd (h : DW G H A c e) : c[0]? = some (.int .i64 (.ofNat e.kind) 0) := by cases h; rfl
theorem DW.vs (h : DW G H A c e) : Cj (.agg c) (.agg c) = true := by
 cases h with
 | mk kind num nm ty arr line col he hv ha hc =>
  refine AAS fun v hv' => ?_
  simp only [qc, List.mem_cons, List.not_mem_nil, or_false] at hv'
  rcases hv' with rfl | rfl | rfl | rfl | rfl | rfl | rfl | rfl | rfl | rfl | rfl <;> first | exact nK .. | exact ACe .. | exact ADe .. | exact hv
end
def Rg (a b : Nat) : Nat -> Prop := fun id => a <= id /\ id < b
def Al (a b x : Nat) : Nat -> Prop := fun id => a < id /\ id < b /\ id ≠ x
theorem E5 {v : V} {P : Prop} (h : Cj v v = true) (hp : P) : Gn (Cj v v) P := by rw [h]; exact hp
abbrev pW : LV := [.int .i64 (.ofNat 0) 0, .int .i64 (.ofNat 0) 0, .int .i64 (.ofNat 0) 0, .int .i64 (.ofNat 0) 0, .str 0 0, .str 0 0, .bool false, .Ae, .str 0 0, .bool false, .str 0 0]
def ExK (G : AP) (pb : Nat) (H : Heap) (n : Nat) (s' : S) (e : Ex) (k : KV) : Prop := ∀ H' n' c, Fr G pb H n H' n' s' -> DW G H' (Rg n n') c e -> k (.agg c) H' n'
def Bxs (H : Heap) (n pb : Nat) (bs : List Nat) : Prop := ∀ b ∈ bs, pb < b /\ b < n /\ T.get H b = some (one [.ptr pb 0])
theorem Bxs.fr {G : AP} {H H' : Heap} {n n' pb : Nat} {s' : S} {bs : List Nat} (h : Bxs H n pb bs) (y : Fr G pb H n H' n' s') : Bxs H' n' pb bs := fun b hb => by
 obtain ⟨h1, h2, h3⟩ := h b hb
 exact ⟨h1, Nat.lt_of_lt_of_le h2 y.le, y.get h3 h2 h1⟩
theorem Bxs.nil {H : Heap} {n pb : Nat} : Bxs H n pb [] := fun _ h => by cases h
def FnC (G : AP) (pb : Nat) (bs : List Nat) (m : PM Ex) (v : V) : Prop := ∀ (s : S) (H : Heap) (n : Nat) (s' : S) (e : Ex) (k : KV), Vo G H pb s -> pb < n -> Bxs H n pb bs -> m s = some (e, s') -> ExK G pb H n s' e k -> JV v [] (Runs F G) H n k
theorem ACR {kd : Nat} {x y : V} {id o l c : Nat} : BR pW [(0, 1, .c (.int .i64 (.ofNat kd) 0)), (1, 2, .c (.agg [x, y])), (7, 1, .c (.sl id o l c 11))] =
    some (.agg [.int .i64 (.ofNat kd) 0, x, y, .int .i64 (.ofNat 0) 0, .str 0 0, .str 0 0, .bool false, .sl id o l c 11, .str 0 0, .bool false, .str 0 0]) := rfl
section
variable {G : AP} {H : Heap} {n pb : Nat} {s s' : S} {k : KV}
theorem iq {H0 H : Heap} {n0 n r b : Nat} {c L0 : LV} {e : Ex} {A : Nat -> Prop} (x : Fr G pb H0 n0 H n s') (gr : T.get H r = some (one L0)) (hl : L0.length = 11) (gb : T.get H b = some (one c)) (hr : n0 <= r) (he : DW G H A c e)
    (hA : ∀ id, A id -> n0 <= id /\ id < n /\ id ≠ r) (hk : ExK G pb H0 n0 s' e k) :
    AU (BH 11 (.ptr b 0) G H) fun v6 => Bj 11 (.ptr r 0) v6 H n fun _ H n => FN (BQ [.cn (.ptr r 0) 11] G H) fun l => k (FB l) H n := by
  rw [Aj (m := 11) gb (by omega) he.len, Au]
  refine Bo gr hl he.len (by omega) fun H1 g1 s1 => ?_
  rw [BL (m := 11) g1 (by omega) he.len]
  simp only [go_sem]
  exact hk _ _ _ (x.st hr s1) (he.mono (fun id h => ⟨(hA id h).1, (hA id h).2.1⟩) fun id h => s1 id (hA id h).2.2)
theorem ABb {bs : List Nat} {m : PM Ex} {v : V} {kd f : Nat} {w : Bs} {e : Ex} (hf : FnC G pb bs m v) (hbs : Bxs H n pb bs) (h : Vo G H pb s) (hb : pb < n) (hm : either kd w m f s = some (e, s')) (hk : ExK G pb H n s' e k) :
    Runs F G NJ [.ptr pb 0, .int .i64 (.ofNat kd) 0, sB w, v] H n k := by
  refine BZ (s := ar4 (GL lfp G)) Lp (by obtain ⟨h, o⟩ := Qe BX G; rw [Lp] at h; cases h; exact o) ?_
  show GL lfp G (Runs F G) (.ptr pb 0) (.int .i64 (.ofNat kd) 0) (sB w) v H n k
  delta GL
  have x := Fr.refl h hb
  refine A8 rfl fun H1 f1 g1 => ?_
  have x := x.al f1
  unfold either at hm
  rw [Option.bind_eq_some_iff] at hm
  obtain ⟨⟨e1, s1⟩, h1, hm⟩ := hm
  have hm : dU kd w m f e1 s1 = some (e, s') := hm
  refine hf s H1 (n + 1) s1 e1 _ x.p x.lt (hbs.fr x) h1 fun H2 n2 c y hx => ?_
  have x := x.tr y
  have g1 := y.get g1 (by omega) hb
  have hn2 := y.le
  refine A8 rfl fun H3 f3 g3 => ?_
  have x := x.al f3
  have g1 := f3.get g1 (by omega)
  refine Bo g3 rfl hx.len (by omega) fun H4 g4 s4 => ?_
  have x := x.st (by omega) s4
  have g1 := (s4 n (by omega)).trans g1
  have hx : DW G H4 (Al n (n2 + 1) n2) c e1 := hx.mono (fun id h => ⟨by have := h.1; omega, by have := h.2; omega, by have := h.2; omega⟩) fun id h => (s4 id (by have := h.2; omega)).trans (f3.same id h.2)
  refine LG (J := fun g q => ∃ H' n' t c e1, q = (.ptr pb 0, .int .i64 (.ofNat kd) 0, sB w, v, .ptr n 0, .ptr n2 0, H', n') /\ Fr G pb H n H' n' t /\ n2 < n' /\ T.get H' n = some (one pW) /\ T.get H' n2 = some (one c) /\ DW G H' (Al n n' n2) c e1 /\ dU kd w m g e1 t = some (e, s')) ?_ (m := f)
    ⟨H4, n2 + 1, s1, c, e1, rfl, x, by omega, g1, g4, hx, hm⟩
  rintro I g q ⟨H5, n5, t, c, e1, rfl, x, hn5, g1, g4, hx, hm⟩ ih
  show KF lfp G (Runs F G) k I (.ptr pb 0) (.int .i64 (.ofNat kd) 0) (sB w) v (.ptr n 0) (.ptr n2 0) H5 n5
  delta KF
  cases g with
  | zero => cases hm
  | succ g =>
    have hm : (bif Ov [w] t then (LY t).bind fun s1 => (m s1).bind fun p => dU kd w m g (.mk kd 0 [] [] false [e1, p.1]) p.2 else some (e1, t)) = some (e, s') := hm
    refine gB (ws := [w]) x.p x.lt rfl (by show 1 <= 1000; omega) fun H6 n6 y => ?_
    have x := x.tr y
    have hn6 := y.le
    have g1 := y.get g1 (by omega) hb
    have g4 := y.get g4 (by omega) (by omega)
    have hx : DW G H6 (Al n n6 n2) c e1 := hx.mono (fun id h => ⟨h.1, by have := h.2.1; omega, h.2.2⟩) fun id h => y.f.same id h.2.1 (by have := h.1; omega)
    cases hi : Ov [w] t with
    | false =>
      rw [hi] at hm
      cases hm
      simp only [go_sem]
      delta J9
      exact iq x g1 rfl g4 (Nat.le_refl _) hx (fun id h => ⟨by have := h.1; omega, h.2.1, by have := h.1; omega⟩) hk
    | true =>
      rw [hi, cond_true, Option.bind_eq_some_iff] at hm
      obtain ⟨t1, h1, hm⟩ := hm
      rw [Option.bind_eq_some_iff] at hm
      obtain ⟨⟨e2, t2⟩, h2, hm⟩ := hm
      rw [Bv]
      refine XH x.p x.lt h1 fun H7 n7 line col _ _ y => ?_
      have x := x.tr y
      have hn7 := y.le
      have g1 := y.get g1 (by omega) hb
      have g4 := y.get g4 (by omega) (by omega)
      have hx : DW G H7 (Al n n7 n2) c e1 := hx.mono (fun id h => ⟨h.1, by have := h.2.1; omega, h.2.2⟩) fun id h => y.f.same id h.2.1 (by have := h.1; omega)
      rw [show AMo 3 2 (.agg (QH t.t line col)) = some (.agg [.int .i64 (.ofNat line) 0, .int .i64 (.ofNat col) 0]) from rfl, Au]
      refine A8 rfl fun H8 f8 g8 => ?_
      have x := x.al f8
      refine Bo g8 rfl (L := [.int .i64 (.ofNat line) 0, .int .i64 (.ofNat col) 0]) rfl (by omega) fun H9 g9 s9 => ?_
      have x := x.st (by omega) s9
      have g1 := (s9 n (by omega)).trans (f8.get g1 (by omega))
      have g4 := (s9 n2 (by omega)).trans (f8.get g4 (by omega))
      have hx : DW G H9 (Al n n7 n2) c e1 := hx.mono (fun id h => h) fun id h => (s9 id (by have := h.2.1; omega)).trans (f8.same id h.2.1)
      rw [Aj (m := 2) g9 (by omega) rfl, Au, Aj (m := 11) g4 (by omega) hx.len, Au]
      refine hf _ H9 (n7 + 1) _ _ _ x.p x.lt (hbs.fr x) h2 fun H10 n10 c2 y hx2 => ?_
      have x := x.tr y
      have hn10 := y.le
      have g1 := y.get g1 (by omega) hb
      have g4 := y.get g4 (by omega) (by omega)
      have g9 := y.get g9 (by omega) (by omega)
      rw [Aj (m := 2) g9 (by omega) rfl, Au, Aj (m := 11) g4 (by omega) hx.len]
      refine E5 (Uh ..) (E5 hx.vs ?_)
      refine LZ (G := G) (vs := [.agg c, .agg c2]) rfl (by omega) (fun v hv => by simp at hv; rcases hv with rfl | rfl; exact ⟨rfl, hx.len⟩; exact ⟨rfl, hx2.len⟩) fun H11 f11 _ hel => ?_
      have x := x.al f11
      have g1 := f11.get g1 (by omega)
      have g4 := f11.get g4 (by omega)
      rw [ACR, Au]
      refine Bo g4 hx.len rfl (by omega) fun H12 g12 s12 => ?_
      have x := x.st (by omega) s12
      refine ih g _ (by omega) ⟨H12, n10 + 1, t2, _, .mk kd 0 [] [] false [e1, e2], rfl, x, by omega, (s12 n (by omega)).trans g1, g12, ?_, hm⟩
      refine .mk kd 0 [] [] false line col (hel.same fun id hid => s12 id (by cases DV hid; omega)) (XE ..) (fun id hid => ⟨by cases DV hid; omega, by cases DV hid; omega, by cases DV hid; omega⟩) ?_
      refine .cons (hx.mono (fun id h => ⟨h.1, by have := h.2.1; omega, h.2.2⟩) fun id h => ?_) (.cons (hx2.mono (fun id h => ⟨by have := h.1; omega, by have := h.2; omega, by have := h.1; omega⟩) fun id h => ?_) .nil)
      · have h1 := h.1; have h2 := h.2.1
        exact (s12 id h.2.2).trans ((f11.same id (by omega)).trans (y.f.same id (by omega) (by omega)))
      · have h1 := h.1; have h2 := h.2
        exact (s12 id (by omega)).trans (f11.same id h2)
end
end Go.PQ
namespace Go.PQ
open Go.Eng
set_option maxRecDepth 100000
theorem zQ {kd : Nat} {x y : V} {nm : Bs} {id o l c : Nat} : BR pW [(0, 1, .c (.int .i64 (.ofNat kd) 0)), (1, 2, .c (.agg [x, y])), (4, 1, .c (sB nm)), (7, 1, .c (.sl id o l c 11))] =
    some (.agg [.int .i64 (.ofNat kd) 0, x, y, .int .i64 (.ofNat 0) 0, sB nm, .str 0 0, .bool false, .sl id o l c 11, .str 0 0, .bool false, .str 0 0]) := rfl
section
variable {G : AP} {H : Heap} {n pb : Nat} {s s' : S} {k : KV}
theorem ACS {H0 H : Heap} {n0 n r : Nat} {c L0 : LV} {e : Ex} {A : Nat -> Prop} (x : Fr G pb H0 n0 H n s') (gr : T.get H r = some (one L0)) (hl : L0.length = 11) (hr : n0 <= r) (he : DW G H A c e)
    (hA : ∀ id, A id -> n0 <= id /\ id < n /\ id ≠ r) (hk : ExK G pb H0 n0 s' e k) :
    Bj 11 (.ptr r 0) (.agg c) H n fun _ H n => FN (BQ [.cn (.ptr r 0) 11] G H) fun l => k (FB l) H n := by
  refine Bo gr hl he.len (by omega) fun H1 g1 s1 => ?_
  rw [BL (m := 11) g1 (by omega) he.len]
  simp only [go_sem]
  exact hk _ _ _ (x.st hr s1) (he.mono (fun id h => ⟨(hA id h).1, (hA id h).2.1⟩) fun id h => s1 id (hA id h).2.2)
theorem ADu {bs : List Nat} {ws : List Bs} {m : PM Ex} {v : V} {i o l cp f : Nat} {e : Ex} (hf : FnC G pb bs m v) (hbs : Bxs H n pb bs) (hv : El G H (.sl i o l cp 1) 1 (wsC ws)) (hin : i < n) (hip : pb < i) (hw : ws.length <= 1000)
    (h : Vo G H pb s) (hb : pb < n) (hm : signs ws m f s = some (e, s')) (hk : ExK G pb H n s' e k) :
    Runs F G OO [.ptr pb 0, v, .sl i o l cp 1] H n k := by
  refine BZ (s := ar3 (Gw lfp G)) NP (by obtain ⟨h, o⟩ := Rt BX G; rw [NP] at h; cases h; exact o) ?_
  show Gw lfp G (Runs F G) (.ptr pb 0) v (.sl i o l cp 1) H n k
  delta Gw
  have x := Fr.refl h hb
  refine A8 rfl fun H1 f1 g1 => ?_
  have x := x.al f1
  unfold signs at hm
  rw [Option.bind_eq_some_iff] at hm
  obtain ⟨⟨e1, s1⟩, h1, hm⟩ := hm
  have hm : nN ws m f e1 s1 = some (e, s') := hm
  refine hf s H1 (n + 1) s1 e1 _ x.p x.lt (hbs.fr x) h1 fun H2 n2 c y hx => ?_
  have x := x.tr y
  have g1 := y.get g1 (by omega) hb
  have hn2 := y.le
  refine A8 rfl fun H3 f3 g3 => ?_
  have x := x.al f3
  have g1 := f3.get g1 (by omega)
  refine Bo g3 rfl hx.len (by omega) fun H4 g4 s4 => ?_
  have x := x.st (by omega) s4
  have g1 := (s4 n (by omega)).trans g1
  have hx : DW G H4 (Al n (n2 + 1) n2) c e1 := hx.mono (fun id h => ⟨by have := h.1; omega, by have := h.2; omega, by have := h.2; omega⟩) fun id h => (s4 id (by have := h.2; omega)).trans (f3.same id h.2)
  refine LG (J := fun g q => ∃ H' n' t c e1, q = (.ptr pb 0, v, .sl i o l cp 1, .ptr n 0, .ptr n2 0, H', n') /\ Fr G pb H n H' n' t /\ n2 < n' /\ T.get H' n = some (one pW) /\ T.get H' n2 = some (one c) /\ DW G H' (Al n n' n2) c e1 /\ nN ws m g e1 t = some (e, s')) ?_ (m := f)
    ⟨H4, n2 + 1, s1, c, e1, rfl, x, by omega, g1, g4, hx, hm⟩
  rintro I g q ⟨H5, n5, t, c, e1, rfl, x, hn5, g1, g4, hx, hm⟩ ih
  show Ky lfp G (Runs F G) k I (.ptr pb 0) v (.sl i o l cp 1) (.ptr n 0) (.ptr n2 0) H5 n5
  delta Ky
  cases g with
  | zero => cases hm
  | succ g =>
    have hm : (bif Ov ws t then (LY t).bind fun s1 => (m s1).bind fun p => nN ws m g (.mk 16 0 t.t.text [] false [e1, p.1]) p.2 else some (e1, t)) = some (e, s') := hm
    refine AP1 x.p (hv.same fun j hj => by cases DV hj; exact x.f.same _ hin (by omega)) hw ?_
    cases hi : Ov ws t with
    | false =>
      rw [hi] at hm
      cases hm
      rw [Bl]
      delta LD
      exact iq x g1 rfl g4 (Nat.le_refl _) hx (fun id h => ⟨by have := h.1; omega, h.2.1, by have := h.1; omega⟩) hk
    | true =>
      rw [hi, cond_true, Option.bind_eq_some_iff] at hm
      obtain ⟨t1, h1, hm⟩ := hm
      rw [Option.bind_eq_some_iff] at hm
      obtain ⟨⟨e2, t2⟩, h2, hm⟩ := hm
      rw [Bv]
      refine XH x.p x.lt h1 fun H7 n7 line col _ _ y => ?_
      have x := x.tr y
      have hn7 := y.le
      have g1 := y.get g1 (by omega) hb
      have g4 := y.get g4 (by omega) (by omega)
      have hx : DW G H7 (Al n n7 n2) c e1 := hx.mono (fun id h => ⟨h.1, by have := h.2.1; omega, h.2.2⟩) fun id h => y.f.same id h.2.1 (by have := h.1; omega)
      refine A8 rfl fun H8 f8 g8 => ?_
      have x := x.al f8
      refine Bo g8 rfl (L := QH t.t line col) rfl (by omega) fun H9 g9 s9 => ?_
      have x := x.st (by omega) s9
      have g1 := (s9 n (by omega)).trans (f8.get g1 (by omega))
      have g4 := (s9 n2 (by omega)).trans (f8.get g4 (by omega))
      have hx : DW G H9 (Al n n7 n2) c e1 := hx.mono (fun id h => h) fun id h => (s9 id (by have := h.2.1; omega)).trans (f8.same id h.2.1)
      rw [Aw, Au, Aw]
      simp only [Nat.zero_add]
      rw [KW (m := 2) (o := 3) g9 (by omega) (by show 3 + 2 <= 5; omega), Au, Au, Ah (off := 1) g9 (v := sB t.t.text) rfl, Au, Aj (m := 11) g4 (by omega) hx.len, Au]
      refine hf _ H9 (n7 + 1) _ _ _ x.p x.lt (hbs.fr x) h2 fun H10 n10 c2 y hx2 => ?_
      have x := x.tr y
      have hn10 := y.le
      have g1 := y.get g1 (by omega) hb
      have g4 := y.get g4 (by omega) (by omega)
      have g9 := y.get g9 (by omega) (by omega)
      rw [KW (m := 2) (o := 3) g9 (by omega) (by show 3 + 2 <= 5; omega), Au, Ah (off := 1) g9 (v := sB t.t.text) rfl, Au, Aj (m := 11) g4 (by omega) hx.len]
      refine E5 (Uh ..) (E5 (Rq _) (E5 hx.vs ?_))
      refine LZ (G := G) (vs := [.agg c, .agg c2]) rfl (by omega) (fun v hv => by simp at hv; rcases hv with rfl | rfl; exact ⟨rfl, hx.len⟩; exact ⟨rfl, hx2.len⟩) fun H11 f11 _ hel => ?_
      have x := x.al f11
      have g1 := f11.get g1 (by omega)
      have g4 := f11.get g4 (by omega)
      refine (show ∀ {P : V -> Prop}, P _ -> AU (BR pW [(0, 1, .c (.int .i64 (.ofNat 16) 0)), (1, 2, .c (.agg [.int .i64 (.ofNat line) 0, .int .i64 (.ofNat col) 0])), (4, 1, .c (sB t.t.text)), (7, 1, .c (.sl n10 0 2 2 11))]) P from fun h => by rw [zQ]; exact h) ?_
      refine Bo g4 hx.len rfl (by omega) fun H12 g12 s12 => ?_
      have x := x.st (by omega) s12
      refine ih g _ (by omega) ⟨H12, n10 + 1, t2, _, .mk 16 0 t.t.text [] false [e1, e2], rfl, x, by omega, (s12 n (by omega)).trans g1, g12, ?_, hm⟩
      refine .mk 16 0 t.t.text [] false line col (hel.same fun id hid => s12 id (by cases DV hid; omega)) (XE ..) (fun id hid => ⟨by cases DV hid; omega, by cases DV hid; omega, by cases DV hid; omega⟩) ?_
      refine .cons (hx.mono (fun id h => ⟨h.1, by have := h.2.1; omega, h.2.2⟩) fun id h => ?_) (.cons (hx2.mono (fun id h => ⟨by have := h.1; omega, by have := h.2; omega, by have := h.1; omega⟩) fun id h => ?_) .nil)
      · have h1 := h.1; have h2 := h.2.1
        exact (s12 id h.2.2).trans ((f11.same id (by omega)).trans (y.f.same id (by omega) (by omega)))
      · have h1 := h.1; have h2 := h.2
        exact (s12 id (by omega)).trans (f11.same id h2)
end
end Go.PQ
namespace Go.PQ
open Go.Eng
set_option maxRecDepth 100000
section
variable {G : AP} {pb : Nat}
theorem one1 {H : Heap} {n b : Nat} (h : Bxs H n pb [b]) : pb < b /\ b < n /\ T.get H b = some (one [.ptr pb 0]) := h b (List.mem_cons_self ..)
theorem ANi {un : PM Ex} {f b : Nat} (hf : FnC G pb [] un (.fn CP [.ptr pb 0] [])) : FnC G pb [b] (signs [WG, Qk, jv] un f) (.fn Iy [] [.ptr b 0]) := by
 intro s H n s' e k h hb hbs hm hk
 rw [dP]
 show Runs F G Iy [.ptr b 0] H n k
 refine BZ (s := Eu (D9 lfp G)) Hw (by obtain ⟨h, o⟩ := ML BX G; rw [Hw] at h; cases h; exact o) ?_
 show D9 lfp G (Runs F G) (.ptr b 0) H n k
 delta D9
 obtain ⟨b1, b2, b3⟩ := one1 hbs
 have x := Fr.refl h hb
 refine A8 rfl fun H1 f1 g1 => ?_
 have x := x.al f1
 have b3 := f1.get b3 b2
 have q : AZ (.ptr b 0) G H1 = some (.ptr pb 0) := Ah b3 rfl
 rw [q, Au, Au]
 refine dw (G := G) (ws := [WG, Qk, jv]) rfl fun H2 f2 hel => ?_
 have x := x.al f2
 have g1 := f2.get g1 (by omega)
 refine ADu hf Bxs.nil hel (by omega) (by omega) (by show 3 <= 1000; omega) x.p x.lt hm fun H3 n3 c y hx => ?_
 have hn := y.le
 exact ACS (x.tr y) (y.get g1 (by omega) hb) rfl (Nat.le_refl _) hx (fun id h => ⟨by have := h.1; omega, h.2, by have := h.1; omega⟩) hk
theorem AK2 {un : PM Ex} {f b : Nat} (hf : FnC G pb [] un (.fn CP [.ptr pb 0] [])) : FnC G pb [b] (sumP un f) (.fn F9 [] [.ptr b 0]) := by
 intro s H n s' e k h hb hbs hm hk
 rw [dP]
 show Runs F G F9 [.ptr b 0] H n k
 refine BZ (s := Eu (ES lfp G)) I7 (by obtain ⟨h, o⟩ := OA BX G; rw [I7] at h; cases h; exact o) ?_
 show ES lfp G (Runs F G) (.ptr b 0) H n k
 delta ES
 obtain ⟨b1, b2, b3⟩ := one1 hbs
 have x := Fr.refl h hb
 refine A8 rfl fun H1 f1 g1 => ?_
 have x := x.al f1
 have b3 := f1.get b3 b2
 have q : AZ (.ptr b 0) G H1 = some (.ptr pb 0) := Ah b3 rfl
 rw [q, Au]
 refine dw (G := G) (ws := [Y0, CG]) rfl fun H2 f2 hel => ?_
 have x := x.al f2
 have g1 := f2.get g1 (by omega)
 refine ADu (ANi hf) (fun j hj => by simp at hj; subst hj; exact ⟨b1, by omega, f2.get b3 (by omega)⟩) hel (by omega) (by omega) (by show 2 <= 1000; omega) x.p x.lt hm fun H3 n3 c y hx => ?_
 have hn := y.le
 exact ACS (x.tr y) (y.get g1 (by omega) hb) rfl (Nat.le_refl _) hx (fun id h => ⟨by have := h.1; omega, h.2, by have := h.1; omega⟩) hk
theorem ACk {un : PM Ex} {f : Nat} (hf : FnC G pb [] un (.fn CP [.ptr pb 0] [])) : FnC G pb [] (compared un f) (.fn LP [.ptr pb 0] []) := by
 intro s H n s' e k h hb hbs hm hk
 rw [dP]
 show Runs F G LP [.ptr pb 0] H n k
 refine BZ (s := Eu (FC lfp G)) KC (by obtain ⟨h, o⟩ := PL BX G; rw [KC] at h; cases h; exact o) ?_
 show FC lfp G (Runs F G) (.ptr pb 0) H n k
 delta FC
 unfold compared at hm
 rw [Option.bind_eq_some_iff] at hm
 obtain ⟨⟨e1, t⟩, h1, hm⟩ := hm
 have hm : (bif Ov [Xb, lK, Ua, jQ] t then (LY t).bind fun s1 => (sumP un f s1).bind fun q => some (.mk 16 0 t.t.text [] false [e1, q.1], q.2) else some (e1, t)) = some (e, s') := hm
 have x := Fr.refl h hb
 refine AEB rfl fun H0 f0 g0 => ?_
 have x := x.al f0
 have g0 : T.get H0 n = some (one [.ptr pb 0]) := g0
 refine A8 rfl fun H1 f1 g1 => ?_
 have x := x.al f1
 have g0 := f1.get g0 (by omega)
 refine AK2 (b := n) hf _ H1 (n + 1 + 1) _ _ _ x.p x.lt (fun j hj => by simp at hj; subst hj; exact ⟨hb, by omega, g0⟩) h1 fun H2 n2 c y hx => ?_
 have x := x.tr y
 have g0 := y.get g0 (by omega) hb
 have g1 := y.get g1 (by omega) (by omega)
 have hn2 := y.le
 refine A8 rfl fun H3 f3 g3 => ?_
 have x := x.al f3
 have g0 := f3.get g0 (by omega)
 have g1 := f3.get g1 (by omega)
 refine Bo g3 rfl hx.len (by omega) fun H4 g4 s4 => ?_
 have x := x.st (by omega) s4
 have g0 := (s4 n (by omega)).trans g0
 have g1 := (s4 (n + 1) (by omega)).trans g1
 have hx : DW G H4 (Al (n + 1) (n2 + 1) n2) c e1 := hx.mono (fun id h => ⟨by have := h.1; omega, by have := h.2; omega, by have := h.2; omega⟩) fun id h => (s4 id (by have := h.2; omega)).trans (f3.same id h.2)
 have q : AZ (.ptr n 0) G H4 = some (.ptr pb 0) := Ah g0 rfl
 rw [q, Au]
 refine gB (ws := [Xb, lK, Ua, jQ]) x.p x.lt rfl (by show 4 <= 1000; omega) fun H6 n6 y => ?_
 have x := x.tr y
 have hn6 := y.le
 have g0 := y.get g0 (by omega) hb
 have g1 := y.get g1 (by omega) (by omega)
 have g4 := y.get g4 (by omega) (by omega)
 have hx : DW G H6 (Al (n + 1) n6 n2) c e1 := hx.mono (fun id h => ⟨h.1, by have := h.2.1; omega, h.2.2⟩) fun id h => y.f.same id h.2.1 (by have := h.1; omega)
 cases hi : Ov [Xb, lK, Ua, jQ] t with
 | false =>
  rw [hi] at hm
  cases hm
  rw [Bl]
  delta EI
  exact iq x g1 rfl g4 (by omega) hx (fun id h => ⟨by have := h.1; omega, h.2.1, by have := h.1; omega⟩) hk
 | true =>
  rw [hi, cond_true, Option.bind_eq_some_iff] at hm
  obtain ⟨t1, h1, hm⟩ := hm
  rw [Option.bind_eq_some_iff] at hm
  obtain ⟨⟨e2, t2⟩, h2, hm⟩ := hm
  cases hm
  have q : AZ (.ptr n 0) G H6 = some (.ptr pb 0) := Ah g0 rfl
  rw [Bv, q, Au]
  refine XH x.p x.lt h1 fun H7 n7 line col _ _ y => ?_
  have x := x.tr y
  have hn7 := y.le
  have g0 := y.get g0 (by omega) hb
  have g1 := y.get g1 (by omega) (by omega)
  have g4 := y.get g4 (by omega) (by omega)
  have hx : DW G H7 (Al (n + 1) n7 n2) c e1 := hx.mono (fun id h => ⟨h.1, by have := h.2.1; omega, h.2.2⟩) fun id h => y.f.same id h.2.1 (by have := h.1; omega)
  refine A8 rfl fun H8 f8 g8 => ?_
  have x := x.al f8
  refine Bo g8 rfl (L := QH t.t line col) rfl (by omega) fun H9 g9 s9 => ?_
  have x := x.st (by omega) s9
  have g0 := (s9 n (by omega)).trans (f8.get g0 (by omega))
  have g1 := (s9 (n + 1) (by omega)).trans (f8.get g1 (by omega))
  have g4 := (s9 n2 (by omega)).trans (f8.get g4 (by omega))
  have hx : DW G H9 (Al (n + 1) n7 n2) c e1 := hx.mono (fun id h => h) fun id h => (s9 id (by have := h.2.1; omega)).trans (f8.same id h.2.1)
  rw [Aw, Au, Aw]
  simp only [Nat.zero_add]
  rw [KW (m := 2) (o := 3) g9 (by omega) (by show 3 + 2 <= 5; omega), Au, Au, Ah (off := 1) g9 (v := sB t.t.text) rfl, Au, Aj (m := 11) g4 (by omega) hx.len, Au]
  refine AK2 (b := n) hf _ H9 (n7 + 1) _ _ _ x.p x.lt (fun j hj => by simp at hj; subst hj; exact ⟨hb, by omega, g0⟩) h2 fun H10 n10 c2 y hx2 => ?_
  have x := x.tr y
  have hn10 := y.le
  have g1 := y.get g1 (by omega) (by omega)
  have g4 := y.get g4 (by omega) (by omega)
  have g9 := y.get g9 (by omega) (by omega)
  rw [KW (m := 2) (o := 3) g9 (by omega) (by show 3 + 2 <= 5; omega), Au, Ah (off := 1) g9 (v := sB t.t.text) rfl, Au, Aj (m := 11) g4 (by omega) hx.len]
  refine E5 (Uh ..) (E5 (Rq _) (E5 hx.vs ?_))
  refine LZ (G := G) (vs := [.agg c, .agg c2]) rfl (by omega) (fun v hv => by simp at hv; rcases hv with rfl | rfl; exact ⟨rfl, hx.len⟩; exact ⟨rfl, hx2.len⟩) fun H11 f11 _ hel => ?_
  have x := x.al f11
  have g1 := f11.get g1 (by omega)
  have g4 := f11.get g4 (by omega)
  refine (show ∀ {P : V -> Prop}, P _ -> AU (BR pW [(0, 1, .c (.int .i64 (.ofNat 16) 0)), (1, 2, .c (.agg [.int .i64 (.ofNat line) 0, .int .i64 (.ofNat col) 0])), (4, 1, .c (sB t.t.text)), (7, 1, .c (.sl n10 0 2 2 11))]) P from fun h => by rw [zQ]; exact h) ?_
  refine Bo g4 hx.len rfl (by omega) fun H12 g12 s12 => ?_
  have x := x.st (by omega) s12
  delta EI
  refine iq (A := Al (n + 1) (n10 + 1) n2) (e := .mk 16 0 t.t.text [] false [e1, e2]) x ((s12 (n + 1) (by omega)).trans g1) rfl g12 (by omega) ?_ (fun id h => ⟨by have := h.1; omega, h.2.1, by have := h.1; omega⟩) hk
  refine .mk 16 0 t.t.text [] false line col (hel.same fun id hid => s12 id (by cases DV hid; omega)) (XE ..) (fun id hid => ⟨by cases DV hid; omega, by cases DV hid; omega, by cases DV hid; omega⟩) ?_
  refine .cons (hx.mono (fun id h => ⟨h.1, by have := h.2.1; omega, h.2.2⟩) fun id h => ?_) (.cons (hx2.mono (fun id h => ⟨by have := h.1; omega, by have := h.2; omega, by have := h.1; omega⟩) fun id h => ?_) .nil)
  ·have h1 := h.1; have h2 := h.2.1
   exact (s12 id h.2.2).trans ((f11.same id (by omega)).trans (y.f.same id (by omega) (by omega)))
  ·have h1 := h.1; have h2 := h.2
   exact (s12 id (by omega)).trans (f11.same id h2)
theorem AIy {un : PM Ex} {f b : Nat} (hf : FnC G pb [] un (.fn CP [.ptr pb 0] [])) : FnC G pb [b] (either 17 Wu (compared un f) f) (.fn NM [] [.ptr b 0]) := by
 intro s H n s' e k h hb hbs hm hk
 rw [dP]
 show Runs F G NM [.ptr b 0] H n k
 refine BZ (s := Eu (GZ lfp G)) L8 (by obtain ⟨h, o⟩ := Qq BX G; rw [L8] at h; cases h; exact o) ?_
 show GZ lfp G (Runs F G) (.ptr b 0) H n k
 delta GZ
 obtain ⟨b1, b2, b3⟩ := one1 hbs
 have x := Fr.refl h hb
 refine A8 rfl fun H1 f1 g1 => ?_
 have x := x.al f1
 have b3 := f1.get b3 b2
 have q : AZ (.ptr b 0) G H1 = some (.ptr pb 0) := Ah b3 rfl
 rw [q, Au, Au, AOv]
 refine ABb (ACk hf) Bxs.nil x.p x.lt hm fun H3 n3 c y hx => ?_
 have hn := y.le
 exact ACS (x.tr y) (y.get g1 (by omega) hb) rfl (Nat.le_refl _) hx (fun id h => ⟨by have := h.1; omega, h.2, by have := h.1; omega⟩) hk
theorem AIV {rec : PM Ex} {f : Nat} {s s' : S} {H : Heap} {n : Nat} {e : Ex} {k : KV} (hf : FnC G pb [] (unary rec f) (.fn CP [.ptr pb 0] [])) (h : Vo G H pb s) (hb : pb < n) (hm : ABS rec f s = some (e, s')) (hk : ExK G pb H n s' e k) :
    Runs F G Bf [.ptr pb 0] H n k := by
  refine BZ (s := Eu (IY lfp G)) OH (by obtain ⟨h, o⟩ := UC BX G; rw [OH] at h; cases h; exact o) ?_
  show IY lfp G (Runs F G) (.ptr pb 0) H n k
  delta IY
  unfold ABS at hm
  rw [Option.bind_eq_some_iff] at hm
  obtain ⟨s1, h1, hm⟩ := hm
  rw [Option.bind_eq_some_iff] at hm
  obtain ⟨⟨e1, s2⟩, h2, hm⟩ := hm
  rw [Option.bind_eq_some_iff] at hm
  obtain ⟨s3, h3, hm⟩ := hm
  cases hm
  have x := Fr.refl h hb
  refine AEB rfl fun H0 f0 g0 => ?_
  have x := x.al f0
  have g0 : T.get H0 n = some (one [.ptr pb 0]) := g0
  refine A8 rfl fun H1 f1 g1 => ?_
  have x := x.al f1
  have g0 := f1.get g0 (by omega)
  have q : AZ (.ptr n 0) G H1 = some (.ptr pb 0) := Ah g0 rfl
  rw [q, Au]
  refine zW x.p x.lt h1 fun H2 n2 q y hq1 hq2 hq3 => ?_
  have x := x.tr y
  have g0 := y.get g0 (by omega) hb
  have g1 := y.get g1 (by omega) (by omega)
  rw [qQ]
  have q' : AZ (.ptr n 0) G H2 = some (.ptr pb 0) := Ah g0 rfl
  rw [q', Au, ASM]
  refine ABb (AIy (b := n) hf) (fun j hj => by simp at hj; subst hj; exact ⟨hb, by omega, g0⟩) x.p x.lt h2 fun H3 n3 c y hx => ?_
  have x := x.tr y
  have g1 := y.get g1 (by omega) (by omega)
  have hq3 := y.get hq3 hq2 (by omega)
  have hn3 := y.le
  refine Bo g1 rfl hx.len (by omega) fun H4 g4 s4 => ?_
  have x := x.st (by omega) s4
  have hx : DW G H4 (Rg n2 n3) c e1 := hx.mono (fun id h => h) fun id h => s4 id (by have := h.1; omega)
  refine AJw x.p x.lt ((s4 q (by omega)).trans hq3) h3 fun H5 n5 y => ?_
  have x := x.tr y
  have g4 := y.get g4 (by omega) (by omega)
  have hn5 := y.le
  rw [BL (m := 11) g4 (by omega) hx.len]
  simp only [go_sem]
  exact hk _ _ _ x (hx.mono (fun id h => ⟨by have := h.1; omega, by have := h.2; omega⟩) fun id h => y.f.same id h.2 (by have := h.1; omega))
end
end Go.PQ
namespace Go.PQ
open Go.Eng
set_option maxRecDepth 100000
theorem ACC {G : AP} {H : Heap} {n id m z bs : Nat} {t : T LV} {w : V} {LS NS : D5} {k : KV} (hz : 0 < z) (hb : T.get H id = some (.arr z m t)) (hid : id < n) (h : elems (.sl id 0 m m z) G H z = some LS)
    (hw : elems w G H z = some NS) (hr : (m + NS.length) * bs <= 140737488355328)
    (hk : ∀ v' H' n', El G H' v' z (LS ++ NS) -> (∀ j, j < n -> T.get H' j = T.get H j) -> n <= n' -> ((∃ l, v' = .sl id 0 l m z) ∨ ∃ l, v' = .Nr n 0 l z /\ n < n') -> k v' H' n') : Yi z bs (.sl id 0 m m z) w G H n k := by
  unfold Yi
  rw [hw, Wn]
  have h2 : (Bool.rec (motive := fun _ => Option D5) none (Cb H id z m 0) (Nat.beq z z) : Option D5) = some LS := h
  rw [EG] at h2
  have h2 : Cb H id z m 0 = some LS := h2
  obtain ⟨hl, hat⟩ := N9 _ _ h2
  have e0 : ABm (.sl id 0 m m z) G z bs NS H n k = Bool.rec (motive := fun _ => Prop) (FN (Cb H id z m 0) fun OS => L9 z bs OS NS H n k) (FN (T.get H id) fun b => qE id 0 m m z (m + NS.length) NS H n k b) (Nat.ble (m + NS.length) m) := by
    show Gn (Nat.beq z z) (DN (Nat.add m (len NS)) fun need => Bool.rec (motive := fun _ => Prop) (FN (Cb H id z m 0) fun OS => L9 z bs OS NS H n k) (FN (T.get H id) fun b => qE id 0 m m z need NS H n k b) (Nat.ble need m)) = _
    rw [EG, aB, BP, len_eq]; rfl
  rw [e0]
  by_cases hN : NS.length = 0
  · have : NS = [] := List.length_eq_zero_iff.1 hN
    subst this
    rw [show Nat.ble (m + ([] : D5).length) m = true by rw [Nat.ble_eq]; exact Nat.le_refl _]
    show FN (T.get H id) (fun b => qE id 0 m m z (m + 0) [] H n k b)
    rw [hb, Wn]
    show Gn (band (Nat.beq z z) (Nat.ble (Nat.add 0 (m + 0)) m)) (k (.sl id 0 (m + 0) m z) (T.set H id (.arr z m t)) n)
    rw [EG, show Nat.ble (Nat.add 0 (m + 0)) m = true by rw [Nat.ble_eq]; show 0 + m <= m; omega]
    have hs : ∀ j, T.get (T.set H id (.arr z m t)) j = T.get H j := fun j => by
      rw [T.MG]; split
      · rename_i e; subst e; exact hb.symm
      · rfl
    rw [List.append_nil] at hk
    exact hk _ _ _ ((show El G H (.sl id 0 m m z) z LS from ⟨rfl, h⟩).same fun j _ => hs j) (fun j _ => hs j) (Nat.le_refl _) (.inl ⟨_, rfl⟩)
  · rw [show Nat.ble (m + NS.length) m = false by rw [Bool.eq_false_iff]; intro hc; rw [Nat.ble_eq] at hc; omega]
    show FN (Cb H id z m 0) (fun OS => L9 z bs OS NS H n k)
    rw [h2, Wn]
    show DN (Nat.add (len LS) (len NS)) (fun need => Gn (NI need bs) (DN n fun n => k (.Nr n 0 need z) (T.set H n (.arr z need (ER NS (len LS) (ER LS 0 .e)))) (Nat.succ n)))
    rw [BP, BP, len_eq, len_eq, show NI (Nat.add LS.length NS.length) bs = true from Ve (by rw [hl]; exact hr), aB]
    have e : Nat.add LS.length NS.length = (LS ++ NS).length := by rw [List.length_append]; rfl
    rw [e]
    refine hk _ _ _ (Gr.el (m := n) (.Nr (LS := LS ++ NS) (T.Ap ..) (Nat.le_refl _) (fun i L hi => ?_) (Nat.le_refl _)) hz) (fun j hj => T.Am _ _ (by omega)) (by omega) (.inr ⟨_, rfl, by omega⟩)
    rw [ED, ED]
    by_cases hlt : i < LS.length
    · rw [if_neg (by omega), if_pos ⟨Nat.zero_le _, by omega⟩]
      rw [List.getElem?_append_left hlt] at hi
      exact hi
    · rw [List.getElem?_append_right (by omega)] at hi
      have hlt2 := (List.getElem?_eq_some_iff.1 hi).1
      rw [if_pos ⟨by omega, by omega⟩]; exact hi
theorem AAQ {G : AP} {H : Heap} {m n z bs : Nat} {v w : V} {LS NS : D5} {k : KV} (h : Gr G H m z v LS) (hm : m <= n) (hn : ∀ id, v.UY = some id -> id < n) (hw : elems w G H z = some NS)
    (hb : (LS.length + NS.length) * bs <= 140737488355328)
    (hk : ∀ v' H', Gr G H' m z v' (LS ++ NS) -> (∀ id, id < n -> v.UY ≠ some id -> T.get H' id = T.get H id) -> (∀ id, v'.UY = some id -> id = n) -> k v' H' (n + 1))
    (hk0 : NS = [] -> k v H n) : Yi z bs v w G H n k := by
  unfold Yi
  rw [hw, Wn]
  cases h with
  | nil =>
    cases NS with
    | nil => exact hk0 rfl
    | cons a NS =>
      show L9 z bs [] (a :: NS) H n k
      unfold L9
      rw [BP, BP, len_eq, len_eq, show NI (Nat.add ([] : D5).length (a :: NS).length) bs = true from Ve hb, aB]
      have e : Nat.add ([] : D5).length (a :: NS).length = (a :: NS).length := Nat.zero_add _
      rw [e]
      refine hk _ _ ?_ (fun id hid _ => T.Am _ _ (by omega)) (fun id hid => by cases hid; rfl)
      refine .Nr (LS := a :: NS) (T.Ap ..) (Nat.le_refl _) (fun i L hi => ?_) hm
      show T.get (ER (a :: NS) 0 .e) i = some L
      have hlt := (List.getElem?_eq_some_iff.1 hi).1
      rw [ED, if_pos ⟨Nat.zero_le _, by omega⟩]; exact hi
  | Nr hg hc ht hid =>
    rename_i id c t
    show Gn (Nat.beq z z) _
    rw [EG, aB]
    cases NS with
    | nil => exact hk0 rfl
    | cons a NS =>
      show FN (T.get H id) (fun b => WX id 0 LS.length z bs (a :: NS) H n k b)
      rw [hg, Wn]
      rw [AAq (Ve hb) hc, show LS.length + (a :: NS).length = (LS ++ a :: NS).length by rw [List.length_append]]
      refine hk _ _ ?_ (fun j hj hne => ?_) (fun j hj => by cases hj; rfl)
      · refine .Nr (LS := LS ++ a :: NS) (T.Ap ..) (Nat.le_refl _) (fun i L hi => ?_) hm
        rw [ED]
        by_cases hlt : i < LS.length
        · rw [if_neg (by omega)]
          rw [List.getElem?_append_left hlt] at hi
          exact ht i L hi
        · rw [List.getElem?_append_right (by omega)] at hi
          have hlt2 := (List.getElem?_eq_some_iff.1 hi).1
          rw [if_pos ⟨by omega, by omega⟩]; exact hi
      · rw [T.Am _ _ (by omega), T.Am _ _ (by intro e; subst e; exact hne rfl)]
def iy (G : AP) (H : Heap) (A : Nat -> Prop) (v : V) (es : List Ex) : Prop := ∃ cs, El G H v 11 cs /\ KO v v = true /\ Xc v = true /\ BO v = [v] /\ (∀ id, v.UY = some id -> A id) /\ QF G H A cs es
def EsK (G : AP) (pb : Nat) (H : Heap) (n : Nat) (s' : S) (es : List Ex) (k : KV) : Prop := ∀ H' n' v, Fr G pb H n H' n' s' -> iy G H' (Rg n n') v es -> es.length <= 201 -> k v H' n'
def ADK (G : AP) (pb : Nat) (rec : PM Ex) : Prop := ∀ (s : S) (H : Heap) (n : Nat) (s' : S) (e : Ex) (k : KV), Vo G H pb s -> pb < n -> rec s = some (e, s') -> ExK G pb H n s' e k -> Runs F G Bf [.ptr pb 0] H n k
theorem P5 {G : AP} {H : Heap} {m z : Nat} {v : V} {LS : D5} (h : Gr G H m z v LS) : KO v v = true /\ Xc v = true /\ BO v = [v] := by
 cases h with
 | nil => exact ⟨rfl, rfl, rfl⟩
 | Nr => exact ⟨zN .., rfl, rfl⟩
section
variable {G : AP} {pb : Nat} {H : Heap} {n : Nat} {s s' : S}
theorem kM {w : Bs} {B E : Heap -> Nat -> Prop} (h : Vo G H pb s) (hb : pb < n) (h0 : s.ok = false -> E H n)
    (h1 : s.ok = true -> ∃ b s', C9 w s = some (b, s') /\ ∀ H' n', Fr G pb H n H' n' s' -> bif b then E H' n' else B H' n') :
    Runs F G DK [.ptr pb 0] H n fun v5 H n => Bg v5 true (some (.ptr pb 0)) fun v6 => KG v5 true (Runs F G Aa [v6, sB w] H n) H n fun v7 H n => Bg v5 true (WJ v7) fun v8 => AU (Dc v5 v8 (.bool false)) fun v9 => Ac v9 true (B H n) (E H n) := by
  refine AEt h ?_
  cases ho : s.ok with
  | false => simp only [go_sem]; exact h0 ho
  | true =>
    obtain ⟨b, s', h2, h3⟩ := h1 ho
    simp only [go_sem]
    refine Kv h hb h2 fun H' n' y => ?_
    have := h3 H' n' y
    cases b <;> simp only [go_sem, QW, Bool.not_true, Bool.not_false] <;> exact this
theorem DW.ok {A : Nat -> Prop} {c : LV} {e : Ex} (h : DW G H A c e) : Xc (.agg c) = true /\ (BO (.agg c)).length = 11 := ⟨rfl, h.len⟩
theorem AG5 {rec : PM Ex} {f : Nat} {es : List Ex} {k : KV} (hr : ADK G pb rec) (h : Vo G H pb s) (hb : pb < n) (hm : wZ rec f s = some (es, s')) (hk : EsK G pb H n s' es k) : Runs F G Oz [.ptr pb 0] H n k := by
 refine BZ (s := Eu (Hy lfp G)) OJ (by obtain ⟨h, o⟩ := UE BX G; rw [OJ] at h; cases h; exact o) ?_
 show Hy lfp G (Runs F G) (.ptr pb 0) H n k
 delta Hy
 unfold wZ at hm
 rw [Option.bind_eq_some_iff] at hm
 obtain ⟨s1, h1, hm⟩ := hm
 refine JC (ws := [JY]) h hb rfl (by show 1 <= 1000; omega) h1 fun H1 n1 x => ?_
 refine LG (J := fun g q => ∃ H' n' t v cs out, q = (.ptr pb 0, v, H', n') /\ Fr G pb H n H' n' t /\ Own G H' n n' 11 v cs /\ QF G H' (fun id => n <= id /\ id < n' /\ v.UY ≠ some id) cs out /\ (t.ok = true -> out.length <= 200) /\ out.length <= 201 /\ ABe rec g out t = some (es, s')) ?_ (m := f)
  ⟨H1, n1, s1, .Ae, [], [], rfl, x, dZ, .nil, fun _ => Nat.zero_le _, Nat.zero_le _, hm⟩
 rintro I g q ⟨H2, n2, t, v, cs, out, rfl, x, ho, hc, hle, hle2, hm⟩ ih
 show Lu lfp G (Runs F G) k I (.ptr pb 0) v H2 n2
 delta Lu
 cases g with
 | zero => cases hm
 | succ g =>
  have hm : (bif t.ok then (C9 J8 t).bind fun p => bif p.1 then some (out, p.2) else
   (bif decide (0 < out.length) then DI [Ob] p.2 else some p.2).bind fun s1 => (rec s1).bind fun q => ABe rec g (out ++ [q.1]) (IU (out.length + 1) q.2)
   else some (out, t)) = some (es, s') := hm
  have hn2 := x.le
  have fin : ∀ {H3 : Heap} {n3 : Nat} {t3 : S}, Fr G pb H2 n2 H3 n3 t3 -> some (out, t3) = some (es, s') -> Ik lfp G (Runs F G) k v H3 n3 := by
   intro H3 n3 t3 y he
   cases he
   delta Ik
   have ho3 := ho.kx y.f x.b
   refine hk _ _ _ (x.tr y) ⟨cs, ho3.el (by omega), (P5 ho3.gr).1, (P5 ho3.gr).2.1, (P5 ho3.gr).2.2, fun id hid => ⟨ho3.ge hid, ho3.lo id hid⟩, ?_⟩ hle2
   exact hc.mono (fun id h => ⟨h.1, by have := h.2.1; have := y.le; omega⟩) fun id h => y.f.same id h.2.1 (by have := h.1; have := x.b; omega)
  rw [AOO]
  refine kM x.p x.lt (fun hf => fin (Fr.refl x.p x.lt) (by rw [hf] at hm; exact hm)) fun ht => ?_
  rw [ht, cond_true, Option.bind_eq_some_iff] at hm
  obtain ⟨⟨b, t2⟩, h2, hm⟩ := hm
  refine ⟨b, t2, h2, fun H3 n3 y => ?_⟩
  cases b with
  | true => exact fin y hm
  | false =>
   show AU (lenV v) _
   have hm : ((bif decide (0 < out.length) then DI [Ob] t2 else some t2).bind fun s1 => (rec s1).bind fun q => ABe rec g (out ++ [q.1]) (IU (out.length + 1) q.2)) = some (es, s') := hm
   rw [Option.bind_eq_some_iff] at hm
   obtain ⟨t3, h3, hm⟩ := hm
   rw [Option.bind_eq_some_iff] at hm
   obtain ⟨⟨e, t4⟩, h4, hm⟩ := hm
   have hlen := hle ht
   have body : ∀ {H4 : Heap} {n4 : Nat}, Fr G pb H2 n2 H4 n4 t3 -> FD lfp G (Runs F G) k I (.ptr pb 0) v H4 n4 := by
    intro H4 n4 y
    delta FD
    have ho4 := ho.kx y.f x.b
    have hc4 : QF G H4 (fun id => n <= id /\ id < n4 /\ v.UY ≠ some id) cs out := hc.mono (fun id h => ⟨h.1, by have := h.2.1; have := y.le; omega, h.2.2⟩) fun id h => y.f.same id h.2.1 (by have := h.1; have := x.b; omega)
    have x := x.tr y
    refine hr _ _ _ _ _ _ x.p x.lt h4 fun H5 n5 c y hx => ?_
    have hn4 := x.le
    have hpb := x.b
    have x := x.tr y
    have ho5 := ho4.kx y.f hpb
    have hc5 : QF G H5 (fun id => n <= id /\ id < n4 /\ v.UY ≠ some id) cs out := hc4.mono (fun id h => h) fun id h => y.f.same id h.2.1 (by have := h.1; omega)
    have hn5 := y.le
    refine LZ (G := G) (vs := [.agg c]) rfl (by omega) (fun v hv => by simp at hv; subst hv; exact hx.ok) fun H6 f6 _ hel => ?_
    have x := x.al f6
    have ho6 := ho5.kp f6
    refine AAQ ho6.gr (by omega) ho6.lo hel.2 (by have := hc.len; show (cs.length + 1) * 136 <= _; omega) ?_ (fun h => by cases h)
    intro v' H7 hgr hsame hlo
    have hgr : Gr G H7 n 11 v' (cs ++ [c]) := hgr
    have f7 : Fr G pb H n H7 (n5 + 1 + 1) t4 := ⟨⟨by omega, fun id hid hp => (hsame id (by omega) (fun h => by have := ho6.ge h; omega)).trans (x.f.same id hid hp)⟩, x.p.same fun id hid => hsame id (by omega) (fun h => by have := ho6.ge h; omega), hpb⟩
    have hv4 : ∀ id, v.UY = some id -> id < n4 := ho4.lo
    rw [(hgr.el (by omega)).len, Au, List.length_append, show cs.length + [c].length = out.length + 1 by rw [hc.len]; rfl]
    refine AAk f7.p f7.lt fun H8 n8 y8 => ?_
    have hn8 := y8.le
    refine ih g (_, _, H8, n8) (by omega) ⟨H8, n8, _, v', cs ++ [c], out ++ [e], rfl, f7.tr y8, ?_, ?_, ?_, by rw [List.length_append]; show out.length + 1 <= 201; omega, hm⟩
    ·exact (show Own G H7 n (n5 + 1 + 1) 11 v' (cs ++ [c]) from ⟨hgr, fun id hid => by have := hlo id hid; omega⟩).kx y8.f hpb
    ·refine (hc5.mono (fun id h => ⟨h.1, by have := h.2.1; omega, fun hv => by have := hlo id hv; have := h.2.1; omega⟩) fun id h => ?_).app (.cons (hx.mono (fun id h => ⟨by have := h.1; omega, by have := h.2; omega, fun hv => by have := hlo id hv; have := h.2; omega⟩) fun id h => ?_) .nil)
     ·have h1 := h.1; have h2 := h.2.1
      exact (y8.f.same id (by omega) (by omega)).trans ((hsame id (by omega) h.2.2).trans (f6.same id (by omega)))
     ·have h1 := h.1; have h2 := h.2
      exact (y8.f.same id (by omega) (by omega)).trans ((hsame id (by omega) (fun hv => by have := hv4 id hv; omega)).trans (f6.same id (by omega)))
    ·intro hok
     rw [List.length_append]
     unfold IU at hok
     cases hd : decide (200 < out.length + 1) with
     | false => have := of_decide_eq_false hd; show out.length + 1 <= 200; omega
     | true =>
      rw [hd] at hok
      exfalso
      unfold GY at hok
      cases ho : t4.ok with
      | false => rw [ho] at hok; simp [ho] at hok
      | true => rw [ho] at hok; cases hok
   have hv3 := (ho.kx y.f x.b).el (by omega)
   rw [hv3.len, Au, hc.len, fZ, Au]
   cases hd : decide (0 < out.length) with
   | false =>
    rw [hd] at h3
    cases h3
    rw [Bl]
    exact body y
   | true =>
    rw [hd] at h3
    have h3 : DI [Ob] t2 = some t3 := h3
    rw [Bv]
    exact JC (ws := [Ob]) y.p (by have := y.le; have := x.lt; omega) rfl (by show 1 <= 1000; omega) h3 fun H4 n4 y4 => body (y.tr y4)
end
end Go.PQ
namespace Go.PQ
open Go.Eng
set_option maxRecDepth 100000
theorem ALs {kd : Nat} {x y : V} {nm : Bs} {id o l : Nat} : BR pW [(0, 1, .c (.int .i64 (.ofNat kd) 0)), (1, 2, .c (.agg [x, y])), (4, 1, .c (sB nm)), (7, 1, .c (.Nr id o l 11))] =
    some (.agg [.int .i64 (.ofNat kd) 0, x, y, .int .i64 (.ofNat 0) 0, sB nm, .str 0 0, .bool false, .Nr id o l 11, .str 0 0, .bool false, .str 0 0]) := rfl
theorem ANJ {x y : V} : BR pW [(1, 2, .c (.agg [x, y]))] =
    some (.agg [.int .i64 (.ofNat 0) 0, x, y, .int .i64 (.ofNat 0) 0, .str 0 0, .str 0 0, .bool false, .Ae, .str 0 0, .bool false, .str 0 0]) := rfl
theorem AL {e : Option V} {v : V} {P : V -> Prop} (h : e = some v) (hp : P v) : AU e P := by rw [h]; exact hp
section
variable {G : AP} {pb : Nat} {H : Heap} {n : Nat} {s s' : S} {k : KV}
theorem AJW {t : Ty} (hk : ∀ H', Kp H n H' (n + 1) -> k (.bool (uN t)) H' (n + 1)) : Runs F G X7 [.agg (tyC t)] H n k := by
 refine BZ (s := Eu (LC lfp G)) Qh (by obtain ⟨h, o⟩ := Wy BX G; rw [Qh] at h; cases h; exact o) ?_
 show LC lfp G (Runs F G) (.agg (tyC t)) H n k
 delta LC
 refine Z9 fun H1 f1 g1 => ?_
 have q0 : AZ (.ptr n 0) G H1 = some (sB t.nm) := Ah g1 rfl
 have q1 : AZ (.ptr n 1) G H1 = some (.bool t.arr) := Ah g1 rfl
 have ne0 : ∀ l : Bs, Ib (.one .str) true (sB l) (.str 0 0) = some (.bool (!decide (l = []))) := fun l => ASh l []
 have hk := hk _ f1
 unfold uN at hk
 simp only [go_sem, Nat.reduceAdd, q1, QW]
 cases ha : t.arr with
 | true =>
  rw [ha] at hk
  simp only [Bool.not_true]
  repeat (first | with_reducible refine sH ?_ | with_reducible refine AA9 ?_ | with_reducible refine vV ?_)
  exact hk
 | false =>
  rw [ha] at hk
  simp only [Bool.not_false, go_sem, Nat.reduceAdd, q0, ne0]
  cases hn : t.nm with
  | nil =>
   rw [hn] at hk
   simp only [decide_true, Bool.not_true]
   repeat (first | with_reducible refine sH ?_ | with_reducible refine AA9 ?_ | with_reducible refine vV ?_)
   exact hk
  | cons c l =>
   rw [hn] at hk q0
   have hk : k (.bool (great c)) H1 (n + 1) := hk
   unfold great at hk
   have ix : He (sB (c :: l)) (.int .i64 (.ofNat 0) 0) = some (.int .u8 (.ofNat c.toNat) 0) := ABJ (l := c :: l) (i := 0) (by simp)
   simp only [show decide (c :: l = []) = false from rfl, Bool.not_false, go_sem, Nat.reduceAdd, q0, ix, ZW]
   cases h1 : decide (65 <= c.toNat) with
   | false => rw [h1] at hk; simp only [go_sem]; exact hk
   | true => rw [h1] at hk; simp only [go_sem, Nat.reduceAdd, q0, ix, oM]; exact hk
def AQX (G : AP) (pb : Nat) (H : Heap) (n : Nat) (A : Nat -> Prop) (s' : S) (e : Ex) (k : KV) : Prop := ∀ H' n' c, Fr G pb H n H' n' s' -> DW G H' (fun id => A id ∨ Rg n n' id) c e -> k (.agg c) H' n'
theorem ql {H0 H : Heap} {n0 n r : Nat} {c L0 : LV} {e : Ex} {A : Nat -> Prop} (x : Fr G pb H0 n0 H n s') (gr : T.get H r = some (one L0)) (hl : L0.length = 11) (hr : n0 <= r) (he : DW G H (fun id => A id ∨ (Rg n0 n id /\ id ≠ r)) c e) (hA : ∀ id, A id -> id < n0)
    (hk : AQX G pb H0 n0 A s' e k) : Bj 11 (.ptr r 0) (.agg c) H n fun _ H n => FN (BQ [.cn (.ptr r 0) 11] G H) fun l => k (FB l) H n := by
  refine Bo gr hl he.len (by omega) fun H1 g1 s1 => ?_
  rw [BL (m := 11) g1 (by omega) he.len]
  simp only [go_sem]
  exact hk _ _ _ (x.st hr s1) (he.mono (fun id h => h.imp (fun h => h) fun h => h.1) fun id h => s1 id (by rcases h with h | h; have := hA id h; omega; exact h.2))
theorem AHv {rec : PM Ex} {f : Nat} {e e' : Ex} {c : LV} {A : Nat -> Prop} {line col : Nat} (hr : ADK G pb rec) (hA : ∀ id, A id -> pb < id /\ id < n) (hx : DW G H A c e) (h : Vo G H pb s) (hb : pb < n) (hm : lD rec f e s = some (e', s')) (hk : AQX G pb H n A s' e' k) :
    Runs F G RU [.ptr pb 0, .agg c, .agg [.int .i64 (.ofNat line) 0, .int .i64 (.ofNat col) 0]] H n k := by
  refine BZ (s := ar3 (GU lfp G)) MC (by obtain ⟨h, o⟩ := QU BX G; rw [MC] at h; cases h; exact o) ?_
  show GU lfp G (Runs F G) (.ptr pb 0) (.agg c) (.agg [.int .i64 (.ofNat line) 0, .int .i64 (.ofNat col) 0]) H n k
  delta GU
  unfold lD at hm
  rw [Option.bind_eq_some_iff] at hm
  obtain ⟨⟨b, t⟩, h1, hm⟩ := hm
  have hm : (bif b then some ((.mk 13 0 [] [] false [e] : Ex), t) else (Ii 3 t).bind fun q => bif Ov [JY] q.2 then (wZ rec f q.2).bind fun a => some (.mk 8 0 q.1 [] false (e :: a.1), a.2) else some (.mk 7 0 q.1 [] false [e], q.2)) = some (e', s') := hm
  have x := Fr.refl h hb
  refine Z9 fun H1 f1 g1 => ?_
  have x := x.al f1
  refine Z9 fun H2 f2 g2 => ?_
  have x := x.al f2
  have g1 := f2.get g1 (by omega)
  refine A8 rfl fun H3 f3 g3 => ?_
  have x := x.al f3
  have g1 := f3.get g1 (by omega)
  have g2 := f3.get g2 (by omega)
  have hx : DW G H3 A c e := hx.mono (fun id h => h) fun id h => x.f.same id (hA id h).2 (by have := (hA id h).1; omega)
  rw [show V.str 6 114849160783212 = sB kK from rfl]
  refine Kv x.p x.lt h1 fun H4 n4 y => ?_
  have x := x.tr y
  have hn4 := y.le
  have g1 := y.get g1 (by omega) hb
  have g2 := y.get g2 (by omega) (by omega)
  have g3 := y.get g3 (by omega) (by omega)
  have hx : DW G H4 A c e := hx.mono (fun id h => h) fun id h => y.f.same id (by have := (hA id h).2; omega) (by have := (hA id h).1; omega)
  have mkOne : ∀ {H6 : Heap} {m : Nat} {kd : Nat} {nm : Bs}, DW G H6 A c e -> n <= m -> m ≠ n + 1 + 1 -> El G H6 (.sl m 0 1 1 11) 11 [c] -> DW G H6 (fun id => A id ∨ (Rg n (m + 1) id /\ id ≠ n + 1 + 1)) (qc kd 0 nm [] false line col (.sl m 0 1 1 11)) (.mk kd 0 nm [] false [e]) := by
    intro H6 m kd nm hx h1 h2 hel
    exact .mk kd 0 nm [] false line col hel (XE ..) (fun id hid => .inr (by cases DV hid; exact ⟨⟨h1, by omega⟩, h2⟩)) (.cons (hx.mono (fun id h => .inl h) fun id h => rfl) .nil)
  cases b with
  | true =>
    cases hm
    rw [Bv, Aj (m := 2) g2 (by omega) rfl, Au, Aj (m := 11) g1 (by omega) hx.len, Au]
    refine LZ (G := G) (vs := [.agg c]) rfl (by omega) (fun v hv => by simp at hv; subst hv; exact hx.ok) fun H6 f6 _ hel => ?_
    have x := x.al f6
    have hx : DW G H6 A c e := hx.mono (fun id h => h) fun id h => f6.same id (by have := (hA id h).2; omega)
    refine AL ACR ?_
    exact ql x (f6.get g3 (by omega)) rfl (by omega) (mkOne (kd := 13) (nm := []) hx (by omega) (by omega) hel) (fun id h => (hA id h).2) hk
  | false =>
    rw [cond_false, Option.bind_eq_some_iff] at hm
    obtain ⟨⟨nm, t2⟩, h2, hm⟩ := hm
    have hm : (bif Ov [JY] t2 then (wZ rec f t2).bind fun a => some ((.mk 8 0 nm [] false (e :: a.1) : Ex), a.2) else some (.mk 7 0 nm [] false [e], t2)) = some (e', s') := hm
    rw [Bl]
    refine XI x.p x.lt h2 fun H5 n5 y => ?_
    have x := x.tr y
    have hn5 := y.le
    have g1 := y.get g1 (by omega) hb
    have g2 := y.get g2 (by omega) (by omega)
    have g3 := y.get g3 (by omega) (by omega)
    have hx : DW G H5 A c e := hx.mono (fun id h => h) fun id h => y.f.same id (by have := (hA id h).2; omega) (by have := (hA id h).1; omega)
    refine gB (ws := [JY]) x.p x.lt rfl (by show 1 <= 1000; omega) fun H6 n6 y => ?_
    have x := x.tr y
    have hn6 := y.le
    have g1 := y.get g1 (by omega) hb
    have g2 := y.get g2 (by omega) (by omega)
    have g3 := y.get g3 (by omega) (by omega)
    have hx : DW G H6 A c e := hx.mono (fun id h => h) fun id h => y.f.same id (by have := (hA id h).2; omega) (by have := (hA id h).1; omega)
    rw [QW, Au]
    cases hi : Ov [JY] t2 with
    | false =>
      rw [hi] at hm
      cases hm
      rw [Bool.not_false, Bv, Aj (m := 2) g2 (by omega) rfl, Au, Aj (m := 11) g1 (by omega) hx.len, Au]
      refine LZ (G := G) (vs := [.agg c]) rfl (by omega) (fun v hv => by simp at hv; subst hv; exact hx.ok) fun H7 f7 _ hel => ?_
      have x := x.al f7
      have hx : DW G H7 A c e := hx.mono (fun id h => h) fun id h => f7.same id (by have := (hA id h).2; omega)
      refine AL zQ ?_
      exact ql x (f7.get g3 (by omega)) rfl (by omega) (mkOne (kd := 7) (nm := nm) hx (by omega) (by omega) hel) (fun id h => (hA id h).2) hk
    | true =>
      rw [hi, cond_true, Option.bind_eq_some_iff] at hm
      obtain ⟨⟨es, t3⟩, h3, hm⟩ := hm
      cases hm
      rw [Bool.not_true, Bl, Aj (m := 2) g2 (by omega) rfl, Au, Aj (m := 11) g1 (by omega) hx.len, Au]
      refine LZ (G := G) (vs := [.agg c]) rfl (by omega) (fun v hv => by simp at hv; subst hv; exact hx.ok) fun H7 f7 hb7 hel => ?_
      have x := x.al f7
      have hx : DW G H7 A c e := hx.mono (fun id h => h) fun id h => f7.same id (by have := (hA id h).2; omega)
      have g1 := f7.get g1 (by omega)
      have g2 := f7.get g2 (by omega)
      have g3 := f7.get g3 (by omega)
      refine AG5 hr x.p x.lt h3 fun H8 n8 v y hes hle => ?_
      have x := x.tr y
      have hn8 := y.le
      have g1 := y.get g1 (by omega) hb
      have g2 := y.get g2 (by omega) (by omega)
      have g3 := y.get g3 (by omega) (by omega)
      have hx : DW G H8 A c e := hx.mono (fun id h => h) fun id h => y.f.same id (by have := (hA id h).2; omega) (by have := (hA id h).1; omega)
      rw [Aj (m := 2) g2 (by omega) rfl, Au, Aj (m := 11) g1 (by omega) hx.len, Au]
      refine E5 (Uh ..) (E5 hx.vs ?_)
      obtain ⟨cs, he1, he2, he3, he4, he5, he6⟩ := hes
      obtain ⟨t7, hb7⟩ := hb7
      have hel8 : El G H8 (.sl n6 0 1 1 11) 11 [c] := hel.same fun id hid => by cases DV hid; exact y.f.same _ (by omega) (by omega)
      refine ACC (by omega) ((y.f.same _ (by omega) (by omega)).trans hb7) (by omega) hel8.2 he1.2 ?_ ?_
      · have := he6.len; rw [this]; omega
      intro v' H9 n9 hel9 hs9 hn9 hv'
      have x : Fr G pb H n H9 n9 t3 := ⟨⟨by omega, fun id hid hp => (hs9 id (by omega)).trans (x.f.same id hid hp)⟩, x.p.same fun id hid => hs9 id (by omega), hb⟩
      have g2 := (hs9 (n + 1) (by omega)).trans g2
      have g3 := (hs9 (n + 1 + 1) (by omega)).trans g3
      rw [Aj (m := 2) g2 (by omega) rfl, Au]
      refine E5 (Uh ..) ?_
      have hcs : QF G H9 (fun id => A id ∨ (Rg n n9 id /\ id ≠ n + 1 + 1)) ([c] ++ cs) (e :: es) := by
        refine QF.cons (hx.mono (fun id h => .inl h) fun id h => hs9 id (by have := (hA id h).2; omega)) ?_
        exact he6.mono (fun id h => .inr ⟨⟨by have := h.1; omega, by have := h.2; omega⟩, by have := h.1; omega⟩) fun id h => hs9 id h.2
      have fin : ∀ w : V, El G H9 w 11 ([c] ++ cs) -> KO w w = true -> (∀ id, w.UY = some id -> n6 <= id /\ id < n9) -> DW G H9 (fun id => A id ∨ (Rg n n9 id /\ id ≠ n + 1 + 1)) (qc 8 0 nm [] false line col w) (.mk 8 0 nm [] false (e :: es)) := fun w h1 h2 h3 =>
        .mk 8 0 nm [] false line col h1 h2 (fun id hid => .inr ⟨⟨by have := (h3 id hid).1; omega, (h3 id hid).2⟩, by have := (h3 id hid).1; omega⟩) hcs
      rcases hv' with ⟨l, rfl⟩ | ⟨l, rfl, hn9'⟩
      · refine AL zQ ?_
        exact ql x g3 rfl (by omega) (fin _ hel9 (XE ..) fun id hid => by cases DV hid; omega) (fun id h => (hA id h).2) hk
      · refine AL ALs ?_
        exact ql x g3 rfl (by omega) (fin _ hel9 (zN ..) fun id hid => by cases iU hid; omega) (fun id h => (hA id h).2) hk
end
end Go.PQ
