/- What functions compute, in plain Lean: RatingMoves. No condition of its own. -/
import Derived.Test.YtejmikpmkfnlgaaDen0
namespace Go.Proofs.Ytejmikpmkfnlgaa
open Go.Den
set_option linter.unusedVariables false
set_option maxRecDepth 100000
noncomputable def ratingExpect_L1 (difference : Int) (x1 : (Int × Int × Unit) × (Unit)) : Option (((Int × Int × Unit) × (Unit)) ⊕ ((Int × Unit) × (Unit))) :=
  bif (decide (x1.1.2.1 < (42 : Int))) then (req (inb x1.1.2.1 42) (Option.bind (bif (decide (difference ≥ (w64 ((100 : Int) * (getD' [(4 : Int), (11 : Int), (18 : Int), (26 : Int), (33 : Int), (40 : Int), (47 : Int), (54 : Int), (62 : Int), (69 : Int), (77 : Int), (84 : Int), (92 : Int), (99 : Int), (107 : Int), (114 : Int), (122 : Int), (130 : Int), (138 : Int), (146 : Int), (154 : Int), (163 : Int), (171 : Int), (180 : Int), (189 : Int), (198 : Int), (207 : Int), (216 : Int), (226 : Int), (236 : Int), (246 : Int), (257 : Int), (268 : Int), (279 : Int), (291 : Int), (303 : Int), (316 : Int), (329 : Int), (345 : Int), (358 : Int), (375 : Int), (392 : Int)] (x1.1.2.1).toNat 0))))) then some (((w64 (x1.1.1 + (1 : Int))), ()), ())
  else Option.bind (bif (decide (difference ≤ (w64 ((-100 : Int) * (getD' [(4 : Int), (11 : Int), (18 : Int), (26 : Int), (33 : Int), (40 : Int), (47 : Int), (54 : Int), (62 : Int), (69 : Int), (77 : Int), (84 : Int), (92 : Int), (99 : Int), (107 : Int), (114 : Int), (122 : Int), (130 : Int), (138 : Int), (146 : Int), (154 : Int), (163 : Int), (171 : Int), (180 : Int), (189 : Int), (198 : Int), (207 : Int), (216 : Int), (226 : Int), (236 : Int), (246 : Int), (257 : Int), (268 : Int), (279 : Int), (291 : Int), (303 : Int), (316 : Int), (329 : Int), (345 : Int), (358 : Int), (375 : Int), (392 : Int)] (x1.1.2.1).toNat 0))))) then some (((w64 (x1.1.1 - (1 : Int))), ()), ())
  else some ((x1.1.1, ()), ())) fun x2 =>
  some ((x2.1.1, ()), ())) fun x3 =>
  some (Sum.inl ((x3.1.1, (w64 (x1.1.2.1 + (1 : Int))), ()), ()))))
  else some (Sum.inr ((x1.1.1, ()), ()))
noncomputable def ratingExpect (difference : Int) : Option (Int) :=
  Option.bind (iterW (ratingExpect_L1 difference) (((50 : Int), (0 : Int), ()), ())) fun x4 =>
  some x4.1.1
noncomputable def law3Rates : Option (Bool) :=
  Option.bind (ratingExpect (0 : Int)) fun r3 =>
  Option.bind (gopt (r3 == (50 : Int)) (0 : Int) (ratingExpect (400 : Int))) fun r4 =>
  some ((r3 == (50 : Int)) && (r4 == (51 : Int)))
noncomputable def ref3Hundredths_L2 (x3 : (Int × Int × Unit) × (Unit)) (d : Int) (x4 : (Int × Int × Unit) × (Unit)) : Option (((Int × Int × Unit) × (Unit)) ⊕ ((Int × Unit) × (Unit))) :=
  bif (decide (x4.1.2.1 < (((getD' ([[(4 : Int), (11 : Int), (18 : Int), (26 : Int), (33 : Int), (40 : Int), (47 : Int), (54 : Int), (62 : Int), (69 : Int)], [(77 : Int), (84 : Int), (92 : Int), (99 : Int), (107 : Int), (114 : Int), (122 : Int), (130 : Int), (138 : Int), (146 : Int)], [(154 : Int), (163 : Int), (171 : Int), (180 : Int), (189 : Int), (198 : Int), (207 : Int), (216 : Int), (226 : Int), (236 : Int)], [(246 : Int), (257 : Int), (268 : Int), (279 : Int), (291 : Int), (303 : Int), (316 : Int), (329 : Int), (345 : Int), (358 : Int)], [(375 : Int), (392 : Int)]]) ((x3.1.2.1).toNat) []).length : Nat) : Int))) then (Option.bind (at? (getD' ([[(4 : Int), (11 : Int), (18 : Int), (26 : Int), (33 : Int), (40 : Int), (47 : Int), (54 : Int), (62 : Int), (69 : Int)], [(77 : Int), (84 : Int), (92 : Int), (99 : Int), (107 : Int), (114 : Int), (122 : Int), (130 : Int), (138 : Int), (146 : Int)], [(154 : Int), (163 : Int), (171 : Int), (180 : Int), (189 : Int), (198 : Int), (207 : Int), (216 : Int), (226 : Int), (236 : Int)], [(246 : Int), (257 : Int), (268 : Int), (279 : Int), (291 : Int), (303 : Int), (316 : Int), (329 : Int), (345 : Int), (358 : Int)], [(375 : Int), (392 : Int)]]) ((x3.1.2.1).toNat) []) x4.1.2.1) fun d5 =>
  Option.bind (bif (decide ((w64 (d.tdiv (100 : Int))) ≥ d5)) then some (((w64 (x4.1.1 + (1 : Int))), ()), ())
  else some ((x4.1.1, ()), ())) fun x6 =>
  some (Sum.inl ((x6.1.1, (w64 (x4.1.2.1 + (1 : Int))), ()), ())))
  else some (Sum.inr ((x4.1.1, ()), ()))
noncomputable def ref3Hundredths_L1 (d : Int) (x3 : (Int × Int × Unit) × (Unit)) : Option (((Int × Int × Unit) × (Unit)) ⊕ ((Int × Unit) × (Unit))) :=
  bif (decide (x3.1.2.1 < ((([[(4 : Int), (11 : Int), (18 : Int), (26 : Int), (33 : Int), (40 : Int), (47 : Int), (54 : Int), (62 : Int), (69 : Int)], [(77 : Int), (84 : Int), (92 : Int), (99 : Int), (107 : Int), (114 : Int), (122 : Int), (130 : Int), (138 : Int), (146 : Int)], [(154 : Int), (163 : Int), (171 : Int), (180 : Int), (189 : Int), (198 : Int), (207 : Int), (216 : Int), (226 : Int), (236 : Int)], [(246 : Int), (257 : Int), (268 : Int), (279 : Int), (291 : Int), (303 : Int), (316 : Int), (329 : Int), (345 : Int), (358 : Int)], [(375 : Int), (392 : Int)]]).length : Nat) : Int))) then (Option.bind (req (inb x3.1.2.1 ([[(4 : Int), (11 : Int), (18 : Int), (26 : Int), (33 : Int), (40 : Int), (47 : Int), (54 : Int), (62 : Int), (69 : Int)], [(77 : Int), (84 : Int), (92 : Int), (99 : Int), (107 : Int), (114 : Int), (122 : Int), (130 : Int), (138 : Int), (146 : Int)], [(154 : Int), (163 : Int), (171 : Int), (180 : Int), (189 : Int), (198 : Int), (207 : Int), (216 : Int), (226 : Int), (236 : Int)], [(246 : Int), (257 : Int), (268 : Int), (279 : Int), (291 : Int), (303 : Int), (316 : Int), (329 : Int), (345 : Int), (358 : Int)], [(375 : Int), (392 : Int)]]).length) (Option.bind (iterW (ref3Hundredths_L2 x3 d) ((x3.1.1, (0 : Int), ()), ())) fun x7 =>
  some ((x7.1.1, ()), ()))) fun x8 =>
  some (Sum.inl ((x8.1.1, (w64 (x3.1.2.1 + (1 : Int))), ()), ())))
  else some (Sum.inr ((x3.1.1, ()), ()))
noncomputable def ref3Hundredths_F (self : (Int × Unit) → Option (Int)) (d : Int) : Option (Int) :=
  bif (decide (d < (0 : Int))) then (Option.bind (self ((w64 (0 - d)), ())) fun r2 =>
  some (w64 ((100 : Int) - r2)))
  else Option.bind (iterW (ref3Hundredths_L1 d) (((0 : Int), (0 : Int), ()), ())) fun x9 =>
  some (w64 ((50 : Int) + x9.1.1))
noncomputable def ref3Hundredths_G (self : (Int × Unit) → Option (Int)) (x : Int × Unit) : Option (Int) := ref3Hundredths_F self x.1
noncomputable def ref3Hundredths (d : Int) : Option (Int) := fixW ref3Hundredths_G (d, ())
noncomputable def ratingOut_o (n : Int) : Option (Bool) :=
  some ((decide (n < (-1000000 : Int))) || (decide (n > (1000000 : Int))))
def ratingOut (n : Int) : Bool :=
  ((decide (n < (-1000000 : Int))) || (decide (n > (1000000 : Int))))
theorem ratingOut_eq (n : Int) : ratingOut_o n = some (ratingOut n) := by
  unfold ratingOut_o ratingOut
  first | rfl | simp only [cond_some]
noncomputable def ratingCheck_L1 (l : List Int) (x1 : (Int × Unit) × (Unit)) : Option (((Int × Unit) × (Unit)) ⊕ (((Unit) × (Unit)) ⊕ Int)) :=
  bif (decide (x1.1.1 < ((l.length : Nat) : Int))) then (Option.bind (at? l x1.1.1) fun d2 =>
  bif (ratingOut d2) then (Option.map Sum.inr (Option.map Sum.inr (bif (decide (x1.1.1 ≥ (0 : Int))) then some (4 : Int)
  else some (0 : Int))))
  else some (Sum.inl (((w64 (x1.1.1 + (1 : Int))), ()), ())))
  else some (Sum.inr (Sum.inl ((), ())))
noncomputable def ratingCheck (l : List Int) : Option (Int) :=
  bif ((decide (((l.length : Nat) : Int) < (1 : Int))) || (decide (((l.length : Nat) : Int) > (64 : Int)))) then some (2 : Int)
  else Option.bind (α := ((Unit) × (Unit)) ⊕ Int) (iterW (ratingCheck_L1 l) (((0 : Int), ()), ())) (Sum.elim (fun x3 =>
  some (0 : Int)) some)
noncomputable def ratingCheckAll (l : List Int) (games : List (Int × Int × Int × Unit)) : Option (Int) :=
  Option.bind (ratingCheck l) fun r2 =>
  bif (r2 != (0 : Int)) then some r2
  else bif (decide (((games.length : Nat) : Int) > (256 : Int))) then some (2 : Int)
  else some (0 : Int)
noncomputable def slicesClone_int (s : List Int) : Option (List Int) :=
  bif (s.isEmpty) then (agree (some ([])) (req (room (([] : List Int).length + s.length) 8) (some (([] : List Int) ++ s))))
  else req (room (([] : List Int).length + s.length) 8) (some (([] : List Int) ++ s))
noncomputable def ratingChange (first : Int) (second : Int) (points : Int) (factor : Int) : Option (Int × Int × Unit) :=
  bif ((ratingOut first) || (ratingOut second)) then some ((0 : Int), ((4 : Int), ()))
  else bif ((decide (points < (0 : Int))) || (decide (points > (2 : Int)))) then some ((0 : Int), ((1 : Int), ()))
  else bif ((decide (factor < (1 : Int))) || (decide (factor > (64 : Int)))) then some ((0 : Int), ((4 : Int), ()))
  else Option.bind (ratingExpect (w64 (first - second))) fun r2 =>
  some ((w64 (factor * (w64 ((w64 ((50 : Int) * points)) - r2)))), ((0 : Int), ()))
noncomputable def ratingChange_i (l : List Int) (g : Int × Int × Int × Unit) (factor : Int) : Option (Int × Int × Unit) :=
  bif (((((decide (g.1 < (0 : Int))) || (decide (g.1 ≥ ((l.length : Nat) : Int)))) || (decide (g.2.1 < (0 : Int)))) || (decide (g.2.1 ≥ ((l.length : Nat) : Int)))) || (g.1 == g.2.1)) then some ((0 : Int), ((3 : Int), ()))
  else Option.bind (at? l g.1) fun d4 =>
  Option.bind (at? l g.2.1) fun d5 =>
  Option.bind (ratingChange d4 d5 g.2.2.1 factor) fun r6 =>
  some r6
noncomputable def ratingGame (l : List Int) (g : Int × Int × Int × Unit) (factor : Int) : Option ((List Int) × Int × Unit) :=
  Option.bind (ratingCheck l) fun r6 =>
  bif (r6 != (0 : Int)) then some ([], (r6, ()))
  else Option.bind (ratingChange_i l g factor) fun r7 =>
  bif (r7.2.1 != (0 : Int)) then some ([], r7.2)
  else Option.bind (at? l g.1) fun d8 =>
  Option.bind (at? l g.2.1) fun d9 =>
  Option.bind (slicesClone_int l) fun r10 =>
  req (inb g.1 r10.length) (req (inb g.1 r10.length) (req (inb g.2.1 (r10.set ((g.1).toNat) (w64 ((getD' r10 ((g.1).toNat) (0 : Int)) + (if (w64 (d9 + (1000000 : Int))) < (if (w64 ((1000000 : Int) - d8)) < (if (w64 (d9 - (1000000 : Int))) > (if (w64 ((-1000000 : Int) - d8)) > r7.1 then (w64 ((-1000000 : Int) - d8)) else r7.1) then (w64 (d9 - (1000000 : Int))) else (if (w64 ((-1000000 : Int) - d8)) > r7.1 then (w64 ((-1000000 : Int) - d8)) else r7.1)) then (w64 ((1000000 : Int) - d8)) else (if (w64 (d9 - (1000000 : Int))) > (if (w64 ((-1000000 : Int) - d8)) > r7.1 then (w64 ((-1000000 : Int) - d8)) else r7.1) then (w64 (d9 - (1000000 : Int))) else (if (w64 ((-1000000 : Int) - d8)) > r7.1 then (w64 ((-1000000 : Int) - d8)) else r7.1))) then (w64 (d9 + (1000000 : Int))) else (if (w64 ((1000000 : Int) - d8)) < (if (w64 (d9 - (1000000 : Int))) > (if (w64 ((-1000000 : Int) - d8)) > r7.1 then (w64 ((-1000000 : Int) - d8)) else r7.1) then (w64 (d9 - (1000000 : Int))) else (if (w64 ((-1000000 : Int) - d8)) > r7.1 then (w64 ((-1000000 : Int) - d8)) else r7.1)) then (w64 ((1000000 : Int) - d8)) else (if (w64 (d9 - (1000000 : Int))) > (if (w64 ((-1000000 : Int) - d8)) > r7.1 then (w64 ((-1000000 : Int) - d8)) else r7.1) then (w64 (d9 - (1000000 : Int))) else (if (w64 ((-1000000 : Int) - d8)) > r7.1 then (w64 ((-1000000 : Int) - d8)) else r7.1))))))).length) (req (inb g.2.1 (r10.set ((g.1).toNat) (w64 ((getD' r10 ((g.1).toNat) (0 : Int)) + (if (w64 (d9 + (1000000 : Int))) < (if (w64 ((1000000 : Int) - d8)) < (if (w64 (d9 - (1000000 : Int))) > (if (w64 ((-1000000 : Int) - d8)) > r7.1 then (w64 ((-1000000 : Int) - d8)) else r7.1) then (w64 (d9 - (1000000 : Int))) else (if (w64 ((-1000000 : Int) - d8)) > r7.1 then (w64 ((-1000000 : Int) - d8)) else r7.1)) then (w64 ((1000000 : Int) - d8)) else (if (w64 (d9 - (1000000 : Int))) > (if (w64 ((-1000000 : Int) - d8)) > r7.1 then (w64 ((-1000000 : Int) - d8)) else r7.1) then (w64 (d9 - (1000000 : Int))) else (if (w64 ((-1000000 : Int) - d8)) > r7.1 then (w64 ((-1000000 : Int) - d8)) else r7.1))) then (w64 (d9 + (1000000 : Int))) else (if (w64 ((1000000 : Int) - d8)) < (if (w64 (d9 - (1000000 : Int))) > (if (w64 ((-1000000 : Int) - d8)) > r7.1 then (w64 ((-1000000 : Int) - d8)) else r7.1) then (w64 (d9 - (1000000 : Int))) else (if (w64 ((-1000000 : Int) - d8)) > r7.1 then (w64 ((-1000000 : Int) - d8)) else r7.1)) then (w64 ((1000000 : Int) - d8)) else (if (w64 (d9 - (1000000 : Int))) > (if (w64 ((-1000000 : Int) - d8)) > r7.1 then (w64 ((-1000000 : Int) - d8)) else r7.1) then (w64 (d9 - (1000000 : Int))) else (if (w64 ((-1000000 : Int) - d8)) > r7.1 then (w64 ((-1000000 : Int) - d8)) else r7.1))))))).length) (some (((r10.set ((g.1).toNat) (w64 ((getD' r10 ((g.1).toNat) (0 : Int)) + (if (w64 (d9 + (1000000 : Int))) < (if (w64 ((1000000 : Int) - d8)) < (if (w64 (d9 - (1000000 : Int))) > (if (w64 ((-1000000 : Int) - d8)) > r7.1 then (w64 ((-1000000 : Int) - d8)) else r7.1) then (w64 (d9 - (1000000 : Int))) else (if (w64 ((-1000000 : Int) - d8)) > r7.1 then (w64 ((-1000000 : Int) - d8)) else r7.1)) then (w64 ((1000000 : Int) - d8)) else (if (w64 (d9 - (1000000 : Int))) > (if (w64 ((-1000000 : Int) - d8)) > r7.1 then (w64 ((-1000000 : Int) - d8)) else r7.1) then (w64 (d9 - (1000000 : Int))) else (if (w64 ((-1000000 : Int) - d8)) > r7.1 then (w64 ((-1000000 : Int) - d8)) else r7.1))) then (w64 (d9 + (1000000 : Int))) else (if (w64 ((1000000 : Int) - d8)) < (if (w64 (d9 - (1000000 : Int))) > (if (w64 ((-1000000 : Int) - d8)) > r7.1 then (w64 ((-1000000 : Int) - d8)) else r7.1) then (w64 (d9 - (1000000 : Int))) else (if (w64 ((-1000000 : Int) - d8)) > r7.1 then (w64 ((-1000000 : Int) - d8)) else r7.1)) then (w64 ((1000000 : Int) - d8)) else (if (w64 (d9 - (1000000 : Int))) > (if (w64 ((-1000000 : Int) - d8)) > r7.1 then (w64 ((-1000000 : Int) - d8)) else r7.1) then (w64 (d9 - (1000000 : Int))) else (if (w64 ((-1000000 : Int) - d8)) > r7.1 then (w64 ((-1000000 : Int) - d8)) else r7.1))))))).set ((g.2.1).toNat) (w64 ((getD' (r10.set ((g.1).toNat) (w64 ((getD' r10 ((g.1).toNat) (0 : Int)) + (if (w64 (d9 + (1000000 : Int))) < (if (w64 ((1000000 : Int) - d8)) < (if (w64 (d9 - (1000000 : Int))) > (if (w64 ((-1000000 : Int) - d8)) > r7.1 then (w64 ((-1000000 : Int) - d8)) else r7.1) then (w64 (d9 - (1000000 : Int))) else (if (w64 ((-1000000 : Int) - d8)) > r7.1 then (w64 ((-1000000 : Int) - d8)) else r7.1)) then (w64 ((1000000 : Int) - d8)) else (if (w64 (d9 - (1000000 : Int))) > (if (w64 ((-1000000 : Int) - d8)) > r7.1 then (w64 ((-1000000 : Int) - d8)) else r7.1) then (w64 (d9 - (1000000 : Int))) else (if (w64 ((-1000000 : Int) - d8)) > r7.1 then (w64 ((-1000000 : Int) - d8)) else r7.1))) then (w64 (d9 + (1000000 : Int))) else (if (w64 ((1000000 : Int) - d8)) < (if (w64 (d9 - (1000000 : Int))) > (if (w64 ((-1000000 : Int) - d8)) > r7.1 then (w64 ((-1000000 : Int) - d8)) else r7.1) then (w64 (d9 - (1000000 : Int))) else (if (w64 ((-1000000 : Int) - d8)) > r7.1 then (w64 ((-1000000 : Int) - d8)) else r7.1)) then (w64 ((1000000 : Int) - d8)) else (if (w64 (d9 - (1000000 : Int))) > (if (w64 ((-1000000 : Int) - d8)) > r7.1 then (w64 ((-1000000 : Int) - d8)) else r7.1) then (w64 (d9 - (1000000 : Int))) else (if (w64 ((-1000000 : Int) - d8)) > r7.1 then (w64 ((-1000000 : Int) - d8)) else r7.1))))))) ((g.2.1).toNat) (0 : Int)) - (if (w64 (d9 + (1000000 : Int))) < (if (w64 ((1000000 : Int) - d8)) < (if (w64 (d9 - (1000000 : Int))) > (if (w64 ((-1000000 : Int) - d8)) > r7.1 then (w64 ((-1000000 : Int) - d8)) else r7.1) then (w64 (d9 - (1000000 : Int))) else (if (w64 ((-1000000 : Int) - d8)) > r7.1 then (w64 ((-1000000 : Int) - d8)) else r7.1)) then (w64 ((1000000 : Int) - d8)) else (if (w64 (d9 - (1000000 : Int))) > (if (w64 ((-1000000 : Int) - d8)) > r7.1 then (w64 ((-1000000 : Int) - d8)) else r7.1) then (w64 (d9 - (1000000 : Int))) else (if (w64 ((-1000000 : Int) - d8)) > r7.1 then (w64 ((-1000000 : Int) - d8)) else r7.1))) then (w64 (d9 + (1000000 : Int))) else (if (w64 ((1000000 : Int) - d8)) < (if (w64 (d9 - (1000000 : Int))) > (if (w64 ((-1000000 : Int) - d8)) > r7.1 then (w64 ((-1000000 : Int) - d8)) else r7.1) then (w64 (d9 - (1000000 : Int))) else (if (w64 ((-1000000 : Int) - d8)) > r7.1 then (w64 ((-1000000 : Int) - d8)) else r7.1)) then (w64 ((1000000 : Int) - d8)) else (if (w64 (d9 - (1000000 : Int))) > (if (w64 ((-1000000 : Int) - d8)) > r7.1 then (w64 ((-1000000 : Int) - d8)) else r7.1) then (w64 (d9 - (1000000 : Int))) else (if (w64 ((-1000000 : Int) - d8)) > r7.1 then (w64 ((-1000000 : Int) - d8)) else r7.1))))))), ((0 : Int), ()))))))
noncomputable def ratingAll_L1 (games : List (Int × Int × Int × Unit)) (factor : Int) (x5 : ((List Int) × Int × Unit) × (Unit)) : Option ((((List Int) × Int × Unit) × (Unit)) ⊕ ((((List Int) × Unit) × (Unit)) ⊕ ((List Int) × Int × Unit))) :=
  bif (decide (x5.1.2.1 < ((games.length : Nat) : Int))) then (Option.bind (at? games x5.1.2.1) fun d6 =>
  Option.bind (ratingGame x5.1.1 d6 factor) fun r7 =>
  bif (r7.2.1 != (0 : Int)) then some (Sum.inr (Sum.inr ([], r7.2)))
  else some (Sum.inl ((r7.1, (w64 (x5.1.2.1 + (1 : Int))), ()), ())))
  else some (Sum.inr (Sum.inl ((x5.1.1, ()), ())))
noncomputable def ratingAll (l : List Int) (games : List (Int × Int × Int × Unit)) (factor : Int) : Option ((List Int) × Int × Unit) :=
  Option.bind (ratingCheckAll l games) fun r3 =>
  bif (r3 != (0 : Int)) then some ([], (r3, ()))
  else Option.bind (slicesClone_int l) fun r4 =>
  Option.bind (α := (((List Int) × Unit) × (Unit)) ⊕ ((List Int) × Int × Unit)) (iterW (ratingAll_L1 games factor) ((r4, (0 : Int), ()), ())) (Sum.elim (fun x8 =>
  some (x8.1.1, ((0 : Int), ()))) some)
noncomputable def law3SameInts_L1 (a : List Int) (b : List Int) (x1 : (Int × Unit) × (Unit)) : Option (((Int × Unit) × (Unit)) ⊕ (((Unit) × (Unit)) ⊕ Bool)) :=
  bif (decide (x1.1.1 < ((a.length : Nat) : Int))) then (Option.bind (at? a x1.1.1) fun d2 =>
  Option.bind (at? b x1.1.1) fun d3 =>
  bif (d2 != d3) then some (Sum.inr (Sum.inr false))
  else some (Sum.inl (((w64 (x1.1.1 + (1 : Int))), ()), ())))
  else some (Sum.inr (Sum.inl ((), ())))
noncomputable def law3SameInts (a : List Int) (b : List Int) : Option (Bool) :=
  bif (((a.length : Nat) : Int) != ((b.length : Nat) : Int)) then some false
  else Option.bind (α := ((Unit) × (Unit)) ⊕ Bool) (iterW (law3SameInts_L1 a b) (((0 : Int), ()), ())) (Sum.elim (fun x4 =>
  some true) some)
noncomputable def law3RatingMoves_L1 (l : List Int) (x12 : (Int × Int × Unit) × (Unit)) : Option (((Int × Int × Unit) × (Unit)) ⊕ ((Int × Unit) × (Unit))) :=
  bif (decide (x12.1.2.1 < ((((l.take ((if (70 : Int) < ((l.length : Nat) : Int) then (70 : Int) else ((l.length : Nat) : Int))).toNat).drop 0).length : Nat) : Int))) then (Option.bind (at? ((l.take ((if (70 : Int) < ((l.length : Nat) : Int) then (70 : Int) else ((l.length : Nat) : Int))).toNat).drop 0) x12.1.2.1) fun d13 =>
  Option.bind (bif ((x12.1.1 == (0 : Int)) && ((decide (d13 < (-1000000 : Int))) || (decide (d13 > (1000000 : Int))))) then some (((4 : Int), ()), ())
  else some ((x12.1.1, ()), ())) fun x14 =>
  some (Sum.inl ((x14.1.1, (w64 (x12.1.2.1 + (1 : Int))), ()), ())))
  else some (Sum.inr ((x12.1.1, ()), ()))
noncomputable def law3RatingMoves_L3 (d18 : Int × Int × Int × Unit) (x17 : (Int × Int × Unit) × ((List Int) × Unit)) (x25 : (Int × Unit) × (Unit)) : Option (((Int × Unit) × (Unit)) ⊕ ((Int × Unit) × (Unit))) :=
  req (imp (decide (x25.1.1 > (0 : Int))) (inb d18.1 x17.2.1.length)) (req (imp ((!(decide ((w64 ((getD' x17.2.1 ((d18.1).toNat) (0 : Int)) + x25.1.1)) > (1000000 : Int)))) && (decide (x25.1.1 > (0 : Int)))) (inb d18.2.1 x17.2.1.length)) (bif ((decide (x25.1.1 > (0 : Int))) && ((decide ((w64 ((getD' x17.2.1 ((d18.1).toNat) (0 : Int)) + x25.1.1)) > (1000000 : Int))) || (decide ((w64 ((getD' x17.2.1 ((d18.2.1).toNat) (0 : Int)) - x25.1.1)) < (-1000000 : Int))))) then some (Sum.inl (((w64 (x25.1.1 - (1 : Int))), ()), ()))
  else some (Sum.inr ((x25.1.1, ()), ()))))
noncomputable def law3RatingMoves_L4 (d18 : Int × Int × Int × Unit) (x17 : (Int × Int × Unit) × ((List Int) × Unit)) (x27 : (Int × Unit) × (Unit)) : Option (((Int × Unit) × (Unit)) ⊕ ((Int × Unit) × (Unit))) :=
  req (imp (decide (x27.1.1 < (0 : Int))) (inb d18.1 x17.2.1.length)) (req (imp ((!(decide ((w64 ((getD' x17.2.1 ((d18.1).toNat) (0 : Int)) + x27.1.1)) < (-1000000 : Int)))) && (decide (x27.1.1 < (0 : Int)))) (inb d18.2.1 x17.2.1.length)) (bif ((decide (x27.1.1 < (0 : Int))) && ((decide ((w64 ((getD' x17.2.1 ((d18.1).toNat) (0 : Int)) + x27.1.1)) < (-1000000 : Int))) || (decide ((w64 ((getD' x17.2.1 ((d18.2.1).toNat) (0 : Int)) - x27.1.1)) > (1000000 : Int))))) then some (Sum.inl (((w64 (x27.1.1 + (1 : Int))), ()), ()))
  else some (Sum.inr ((x27.1.1, ()), ()))))
noncomputable def law3RatingMoves_L2 (games : List (Int × Int × Int × Unit)) (factor : Int) (l : List Int) (r10 : (List Int) × Int × Unit) (x17 : (Int × Int × Unit) × ((List Int) × Unit)) : Option (((Int × Int × Unit) × ((List Int) × Unit)) ⊕ (((Unit) × ((List Int) × Unit)) ⊕ Bool)) :=
  bif (decide (x17.1.2.1 < ((((games.take ((if (60 : Int) < ((games.length : Nat) : Int) then (60 : Int) else ((games.length : Nat) : Int))).toNat).drop 0).length : Nat) : Int))) then (Option.bind (α := ((Int × Unit) × ((List Int) × Unit)) ⊕ (((Int × Int × Unit) × ((List Int) × Unit)) ⊕ (((Unit) × ((List Int) × Unit)) ⊕ Bool))) (Option.bind (at? ((games.take ((if (60 : Int) < ((games.length : Nat) : Int) then (60 : Int) else ((games.length : Nat) : Int))).toNat).drop 0) x17.1.2.1) fun d18 =>
  Option.bind (ratingGame x17.2.1 d18 factor) fun r19 =>
  Option.bind (bif (((decide ((if d18.2.1 < d18.1 then d18.2.1 else d18.1) < (0 : Int))) || (decide ((if d18.2.1 > d18.1 then d18.2.1 else d18.1) ≥ ((((l.take ((if (70 : Int) < ((l.length : Nat) : Int) then (70 : Int) else ((l.length : Nat) : Int))).toNat).drop 0).length : Nat) : Int)))) || (d18.1 == d18.2.1)) then some (((3 : Int), ()), ())
  else Option.bind (bif ((decide (d18.2.2.1 < (0 : Int))) || (decide (d18.2.2.1 > (2 : Int)))) then some (((1 : Int), ()), ())
  else Option.bind (bif ((decide (factor < (1 : Int))) || (decide (factor > (64 : Int)))) then some (((4 : Int), ()), ())
  else some ((x17.1.1, ()), ())) fun x20 =>
  some ((x20.1.1, ()), ())) fun x21 =>
  some ((x21.1.1, ()), ())) fun x22 =>
  bif (x22.1.1 != (0 : Int)) then some (Sum.inr (Sum.inr (Sum.inr ((((r19.2.1 == x22.1.1) && (((r19.1.length : Nat) : Int) == (0 : Int))) && (r10.2.1 == x22.1.1)) && (((r10.1.length : Nat) : Int) == (0 : Int))))))
  else req (inb d18.1 x17.2.1.length) (req (inb d18.2.1 x17.2.1.length) (Option.bind (ref3Hundredths (w64 ((getD' x17.2.1 ((d18.1).toNat) (0 : Int)) - (getD' x17.2.1 ((d18.2.1).toNat) (0 : Int))))) fun r23 =>
  req (inb d18.1 x17.2.1.length) (req (inb d18.2.1 x17.2.1.length) (Option.bind (ratingChange (getD' x17.2.1 ((d18.1).toNat) (0 : Int)) (getD' x17.2.1 ((d18.2.1).toNat) (0 : Int)) d18.2.2.1 factor) fun r24 =>
  bif ((r24.2.1 != (0 : Int)) || (r24.1 != (w64 (factor * (w64 ((w64 ((50 : Int) * d18.2.2.1)) - r23)))))) then some (Sum.inr (Sum.inr (Sum.inr false)))
  else Option.bind (iterW (law3RatingMoves_L3 d18 x17) (((w64 (factor * (w64 ((w64 ((50 : Int) * d18.2.2.1)) - r23)))), ()), ())) fun x26 =>
  Option.bind (iterW (law3RatingMoves_L4 d18 x17) ((x26.1.1, ()), ())) fun x28 =>
  req (inb d18.1 x17.2.1.length) (req (inb d18.1 x17.2.1.length) (req (inb d18.2.1 (x17.2.1.set ((d18.1).toNat) (w64 ((getD' x17.2.1 ((d18.1).toNat) (0 : Int)) + x28.1.1))).length) (req (inb d18.2.1 (x17.2.1.set ((d18.1).toNat) (w64 ((getD' x17.2.1 ((d18.1).toNat) (0 : Int)) + x28.1.1))).length) (Option.bind (gopt (!(r19.2.1 != (0 : Int))) false (law3SameInts r19.1 ((x17.2.1.set ((d18.1).toNat) (w64 ((getD' x17.2.1 ((d18.1).toNat) (0 : Int)) + x28.1.1))).set ((d18.2.1).toNat) (w64 ((getD' (x17.2.1.set ((d18.1).toNat) (w64 ((getD' x17.2.1 ((d18.1).toNat) (0 : Int)) + x28.1.1))) ((d18.2.1).toNat) (0 : Int)) - x28.1.1))))) fun r29 =>
  bif ((r19.2.1 != (0 : Int)) || (!r29)) then some (Sum.inr (Sum.inr (Sum.inr false)))
  else some (Sum.inl ((x22.1.1, ()), (((x17.2.1.set ((d18.1).toNat) (w64 ((getD' x17.2.1 ((d18.1).toNat) (0 : Int)) + x28.1.1))).set ((d18.2.1).toNat) (w64 ((getD' (x17.2.1.set ((d18.1).toNat) (w64 ((getD' x17.2.1 ((d18.1).toNat) (0 : Int)) + x28.1.1))) ((d18.2.1).toNat) (0 : Int)) - x28.1.1))), ())))))))))))) (Sum.elim (fun x30 =>
  some (Sum.inl ((x30.1.1, (w64 (x17.1.2.1 + (1 : Int))), ()), (x30.2.1, ())))) some))
  else some (Sum.inr (Sum.inl ((), (x17.2.1, ()))))
noncomputable def law3RatingMoves (l : List Int) (games : List (Int × Int × Int × Unit)) (factor : Int) (d : Int) : Option (Bool) :=
  Option.bind (law3Rates) fun r7 =>
  bif (!r7) then some false
  else req (boundsI (0 : Int) (if (70 : Int) < ((l.length : Nat) : Int) then (70 : Int) else ((l.length : Nat) : Int)) l.length) (req (boundsI (0 : Int) (if (60 : Int) < ((games.length : Nat) : Int) then (60 : Int) else ((games.length : Nat) : Int)) games.length) (Option.bind (gopt ((decide (d > (-1099511627776 : Int))) && (decide (d < (1099511627776 : Int)))) (0 : Int) (ratingExpect d)) fun r8 =>
  Option.bind (gopt ((decide (d > (-1099511627776 : Int))) && (decide (d < (1099511627776 : Int)))) (0 : Int) (ref3Hundredths d)) fun r9 =>
  bif (((decide (d > (-1099511627776 : Int))) && (decide (d < (1099511627776 : Int)))) && (r8 != r9)) then some false
  else Option.bind (ratingAll ((l.take ((if (70 : Int) < ((l.length : Nat) : Int) then (70 : Int) else ((l.length : Nat) : Int))).toNat).drop 0) ((games.take ((if (60 : Int) < ((games.length : Nat) : Int) then (60 : Int) else ((games.length : Nat) : Int))).toNat).drop 0) factor) fun r10 =>
  Option.bind (bif ((((((l.take ((if (70 : Int) < ((l.length : Nat) : Int) then (70 : Int) else ((l.length : Nat) : Int))).toNat).drop 0).length : Nat) : Int) == (0 : Int)) || (decide (((((l.take ((if (70 : Int) < ((l.length : Nat) : Int) then (70 : Int) else ((l.length : Nat) : Int))).toNat).drop 0).length : Nat) : Int) > (64 : Int)))) then some (((2 : Int), ()), ())
  else some (((0 : Int), ()), ())) fun x11 =>
  Option.bind (iterW (law3RatingMoves_L1 l) ((x11.1.1, (0 : Int), ()), ())) fun x15 =>
  Option.bind (ratingCheck ((l.take ((if (70 : Int) < ((l.length : Nat) : Int) then (70 : Int) else ((l.length : Nat) : Int))).toNat).drop 0)) fun r16 =>
  bif (r16 != x15.1.1) then some false
  else bif (x15.1.1 != (0 : Int)) then some ((r10.2.1 == x15.1.1) && (((r10.1.length : Nat) : Int) == (0 : Int)))
  else req (room (([] : List Int).length + ((l.take ((if (70 : Int) < ((l.length : Nat) : Int) then (70 : Int) else ((l.length : Nat) : Int))).toNat).drop 0).length) 8) (Option.bind (α := ((Unit) × ((List Int) × Unit)) ⊕ Bool) (iterW (law3RatingMoves_L2 games factor l r10) ((x15.1.1, (0 : Int), ()), ((([] : List Int) ++ ((l.take ((if (70 : Int) < ((l.length : Nat) : Int) then (70 : Int) else ((l.length : Nat) : Int))).toNat).drop 0)), ()))) (Sum.elim (fun x31 =>
  Option.bind (gopt (r10.2.1 == (0 : Int)) false (law3SameInts r10.1 x31.2.1)) fun r32 =>
  some ((r10.2.1 == (0 : Int)) && r32)) some))))
end Go.Proofs.Ytejmikpmkfnlgaa
