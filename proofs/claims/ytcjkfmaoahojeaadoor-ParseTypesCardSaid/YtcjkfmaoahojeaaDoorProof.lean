/- PROVED: the Go function kilnlaw06.ParseTypes (a type, an int in, one bool out) returns true for every input, and leaves its arguments as they were: the tied card ParseTypesCardSaid. CONDITIONS: none beyond the card's own (the listed package variables hold what the program's text lays; the card ties it). The way: the code is turned into abstract code, checked by the kernel to be what the program has (text Code), an abstract run is proved to stand for the run of the model (texts EngA to EngF), the abstract code is proved to do what plain functions of values do (Plain, PlainR), each function is walked once and shown to compute what a function of plain data computes (Walk, Con.., Law), and the statement is proved of these. Names are short and blanks few for want of room. -/
import Derived.Test.YtcjkfmaoahojeaaDoorLaw
import Derived.Test.YtcjkfmaoahojeaaDoorTie
import Derived.Test.YtcjkfmaoahojeaaDoorCards
import Derived.SevenTiedAt
set_option linter.unusedVariables false
set_option linter.unusedSimpArgs false
namespace Go.Proofs.YtcjkfmaoahojeaaDoor
open Go Go.Eng Go.ChangeShapes Go.WideShapes Go.RowKit
set_option maxRecDepth 100000
theorem AKw {H : Type} {enc : TypeId × Value -> H} {W : World} {r : Reach} {b0 : Nat} {v0 : Value} {d0 d1 : DataW H} {p : List MemPlace} (k0 : Value.okWide Tryd.prog W r b0 41 v0) (h0 : DataW.Trod enc Tryd.prog W 0 (fun _ => true) true 41 v0 d0 p)
    (hz : (DataW.weightsEach Tryd.prog [41, 3] [d0, d1]).all (· <= reachBytes) = true) : ∃ (s : ByteArray) (b : Bool), v0 = .agg #[.string s, .bool b] /\ s.data.toList.length <= 4611686018427387904 := by
  obtain ⟨fuel, hf⟩ := h0
  have e0 : ∃ cs : Array Value, v0 = .agg cs := by
    unfold Value.okWide at k0
    rw [Tryd.underlying41] at k0
    obtain ⟨cs, h, _⟩ := k0
    exact ⟨cs, h⟩
  obtain ⟨cs, rfl⟩ := e0
  obtain ⟨xs, m, rfl, hx, hl, hn, hi⟩ := DataW.trod_struct Tryd.underlying41 hf
  have hc : Tryd.prog.cellsOf 41 = 2 := by kernel_rfl
  have hc9 : Tryd.prog.cellsOf 9 = 1 := by kernel_rfl
  have hc4 : Tryd.prog.cellsOf 4 = 1 := by kernel_rfl
  have hcs : cs.toList.length = 2 := by rw [<- hc]; exact hl
  have hd0 : d0 = .agg (xs.map (·.1)) := congrArg Prod.fst hx
  have i0 := hi 0 _ rfl
  have i1 := hi 1 _ rfl
  have hv : (Value.agg cs).cells.toList = cs.toList := rfl
  rw [hv] at i0 i1
  obtain ⟨c0, c1, hcl⟩ : ∃ c0 c1, cs.toList = [c0, c1] := by
    match cs.toList, hcs with
    | [c0, c1], _ => exact ⟨c0, c1, rfl⟩
  obtain ⟨x0, x1, hxl⟩ : ∃ x0 x1, xs = [x0, x1] := by
    match xs, hn with
    | [x0, x1], _ => exact ⟨x0, x1, rfl⟩
  subst hxl
  rw [hcl] at i0 i1
  have i0 : DataW.trod enc Tryd.prog W 0 (fun _ => true) true m 9 (([c0, c1].drop 0).take (Tryd.prog.cellsOf 9)) = some x0 := i0
  have i1 : DataW.trod enc Tryd.prog W 0 (fun _ => true) true m 4 (([c0, c1].drop 1).take (Tryd.prog.cellsOf 4)) = some x1 := i1
  rw [hc9] at i0
  rw [hc4] at i1
  obtain ⟨s, e0, ex0, _⟩ := DataW.trod_string Tryd.underlying9 (show DataW.trod enc Tryd.prog W 0 (fun _ => true) true m 9 [c0] = some x0 from i0)
  obtain ⟨b, e1, ex1⟩ := DataW.trod_bool Tryd.underlying4 (show DataW.trod enc Tryd.prog W 0 (fun _ => true) true m 4 [c1] = some x1 from i1)
  refine ⟨s, b, ?_, ?_⟩
  · have hc0 : c0 = .string s := by simpa using e0
    have hc1 : c1 = .bool b := by simpa using e1
    rw [show cs = #[c0, c1] from by cases cs; simp_all, hc0, hc1]
  · rw [hd0] at hz
    simp only [DataW.weightsEach, DataW.weights, Tryd.underlying41, ex0, List.map_cons, List.map_nil, List.cons_append, List.all_cons, Bool.and_eq_true, decide_eq_true_eq] at hz
    have := hz.1
    unfold reachBytes at this
    omega
theorem lG (os : Os) (started : os.Started) (H : Type) (enc : TypeId × Value -> H) :
    ReturnsInHanded {} Tryd.checked os 6 .any (fun w args => (Rows.parseTypesSpec.pre enc Tryd.prog Tryd.f6 [] false w args /\ laidMetH Tryd.prog AG2 w) /\ sizedMet enc Tryd.prog Tryd.f6 (OpenSpec.ofChange Rows.parseTypesSpec) false w args)
      (Rows.parseTypesSpec.post enc Tryd.prog Tryd.f6 false true false false) := by
  refine jV (C := Tryd.checked) (F := Go.PQ.F) Go.PQ.ALF started (tb := 4) ASM (by kernel_rfl) Tryd.func6 rfl ?_ (by kernel_rfl) Tryd.underlying4 laidOut ?_
    (World.doorLaid Tryd.prog 400 os) #[.agg #[.string ⟨#[]⟩, .bool false], .int .i64 0] 8 rfl (by kernel_rfl) (by kernel_rfl) (by kernel_rfl) (by kernel_rfl) (by kernel_rfl) (door_met os _) ?_
  · intro ds hl
    match ds, hl with
    | [d0, d1], _ => rfl
  · intro t ht
    rw [Tryd.params6] at ht
    simp at ht
    rcases ht with rfl | rfl <;> exact ⟨by kernel_rfl, of_decide_eq_true (by kernel_rfl)⟩
  · intro W args ds ps hval hA hL hz
    rw [Tryd.params6] at hA hval hz
    obtain ⟨v0, v1, d0, d1, p, q, rfl, rfl, rfl, h0, h1⟩ := trodAll_two hA
    obtain ⟨b0, k0⟩ := hval 0 41 v0 rfl rfl
    obtain ⟨b1, k1⟩ := hval 1 3 v1 rfl rfl
    obtain ⟨a1, rfl, rfl, rfl, w1⟩ := open_int Tryd.underlying3 k1 h1
    obtain ⟨s, b, rfl, hs⟩ := AKw k0 h0 hz
    exact ⟨MK W, [.agg [sB s.data.toList, .bool b], .int .i64 a1 0], ACF W, .cons ⟨#[.string s, .bool b], rfl, .cons ⟨s, rfl, rfl, rfl⟩ (.cons rfl .nil), fun u hu => by simp at hu; rcases hu with rfl | rfl <;> rfl⟩ (.cons rfl .nil), Go.PQ.AAP (of_laid hL).1 (AB2 W) (of_laid hL).2 hs fun _ _ => rfl⟩
theorem nO : Rows.ParseTypesSaid :=
 OpenClaim.holds_of_wide 6 Tryd.f6 rfl rfl rfl rfl rfl rfl rfl ⟨rfl, rfl, rfl, rfl, rfl⟩ rfl rfl rfl rfl rfl (by kernel_rfl) Tryd.func6 (by kernel_rfl)
  (of_decide_eq_true (by kernel_rfl)) (by unfold Func.isWrapper; rw [if_neg (of_decide_eq_false (by kernel_rfl))]; exact ⟨rfl, rfl⟩)
  (fun os started H enc _ => lG os started H enc)
theorem parseTypes_card : Rows.ParseTypesCardSaid :=
 Claim7.holds_tied_plain_at .later [] [.data, .data, .data, .data] true (true, "56dbd1954282d5a45a76d8a75b022c4ca0a104fd26ebfa90da1be692bf490d06") false
  nO (fun _ h => by cases h) (by kernel_rfl) (fun _ h => by cases h) parseTypes_row_tie rfl ⟨rfl, rfl⟩ (by kernel_rfl) rfl
  (fun f fn hf hfn => by
   obtain rfl : f = 6 := Option.some.inj ((show Tryd.prog.funcNamed "kiln/kilnlaw06.ParseTypes" = some 6 by kernel_rfl).symm.trans hf) |>.symm
   obtain rfl : fn = Tryd.f6 := (Option.some.inj (Tryd.func6.symm.trans hfn)).symm
   exact ⟨by kernel_rfl, fun j t ht => by
    rw [Tryd.params6] at ht
    have hm := Array.mem_of_getElem? ht
    exact AJt (by simp at hm; rcases hm with h | h <;> simp [h])⟩)
  (by kernel_rfl)
#print axioms parseTypes_card
end Go.Proofs.YtcjkfmaoahojeaaDoor
