/- What functions compute, in plain Lean: RatingPeriods. No condition of its own. -/
import Derived.Test.YtejmikpmkfnlgaaDen0
namespace Go.Proofs.Ytejmikpmkfnlgaa
open Go.Den
set_option linter.unusedVariables false
set_option maxRecDepth 100000
noncomputable def ratingExpect_L1 (difference : Int) (x1 : (Int × Int × Unit) × (Unit)) : Option (((Int × Int × Unit) × (Unit)) ⊕ ((Int × Unit) × (Unit))) :=
  bif (decide (x1.1.2.1 < (42 : Int))) then (req (inb x1.1.2.1 42) (Option.bind (bif (decide (difference ≥ (w64 ((100 : Int) * (getD' [(4 : Int), (11 : Int), (18 : Int), (26 : Int), (33 : Int), (40 : Int), (47 : Int), (54 : Int), (62 : Int), (69 : Int), (77 : Int), (84 : Int), (92 : Int), (99 : Int), (107 : Int), (114 : Int), (122 : Int), (130 : Int), (138 : Int), (146 : Int), (154 : Int), (163 : Int), (171 : Int), (180 : Int), (189 : Int), (198 : Int), (207 : Int), (216 : Int), (226 : Int), (236 : Int), (246 : Int), (257 : Int), (268 : Int), (279 : Int), (291 : Int), (303 : Int), (316 : Int), (329 : Int), (345 : Int), (358 : Int), (375 : Int), (392 : Int)] (x1.1.2.1).toNat 0))))) then some (((w64 (x1.1.1 + (1 : Int))), ()), ())
  else Option.bind (bif (decide (difference ≤ (w64 ((-100 : Int) * (getD' [(4 : Int), (11 : Int), (18 : Int), (26 : Int), (33 : Int), (40 : Int), (47 : Int), (54 : Int), (62 : Int), (69 : Int), (77 : Int), (84 : Int), (92 : Int), (99 : Int), (107 : Int), (114 : Int), (122 : Int), (130 : Int), (138 : Int), (146 : Int), (154 : Int), (163 : Int), (171 : Int), (180 : Int), (189 : Int), (198 : Int), (207 : Int), (216 : Int), (226 : Int), (236 : Int), (246 : Int), (257 : Int), (268 : Int), (279 : Int), (291 : Int), (303 : Int), (316 : Int), (329 : Int), (345 : Int), (358 : Int), (375 : Int), (392 : Int)] (x1.1.2.1).toNat 0))))) then some (((w64 (x1.1.1 - (1 : Int))), ()), ())
  else some ((x1.1.1, ()), ())) fun x2 =>
  some ((x2.1.1, ()), ())) fun x3 =>
  some (Sum.inl ((x3.1.1, (w64 (x1.1.2.1 + (1 : Int))), ()), ()))))
  else some (Sum.inr ((x1.1.1, ()), ()))
noncomputable def ratingExpect (difference : Int) : Option (Int) :=
  Option.bind (iterW (ratingExpect_L1 difference) (((50 : Int), (0 : Int), ()), ())) fun x4 =>
  some x4.1.1
noncomputable def law3Rates : Option (Bool) :=
  Option.bind (ratingExpect (0 : Int)) fun r3 =>
  Option.bind (gopt (r3 == (50 : Int)) (0 : Int) (ratingExpect (400 : Int))) fun r4 =>
  some ((r3 == (50 : Int)) && (r4 == (51 : Int)))
noncomputable def ratingOut_o (n : Int) : Option (Bool) :=
  some ((decide (n < (-1000000 : Int))) || (decide (n > (1000000 : Int))))
def ratingOut (n : Int) : Bool :=
  ((decide (n < (-1000000 : Int))) || (decide (n > (1000000 : Int))))
theorem ratingOut_eq (n : Int) : ratingOut_o n = some (ratingOut n) := by
  unfold ratingOut_o ratingOut
  first | rfl | simp only [cond_some]
noncomputable def ratingCheck_L1 (l : List Int) (x1 : (Int × Unit) × (Unit)) : Option (((Int × Unit) × (Unit)) ⊕ (((Unit) × (Unit)) ⊕ Int)) :=
  bif (decide (x1.1.1 < ((l.length : Nat) : Int))) then (Option.bind (at? l x1.1.1) fun d2 =>
  bif (ratingOut d2) then (Option.map Sum.inr (Option.map Sum.inr (bif (decide (x1.1.1 ≥ (0 : Int))) then some (4 : Int)
  else some (0 : Int))))
  else some (Sum.inl (((w64 (x1.1.1 + (1 : Int))), ()), ())))
  else some (Sum.inr (Sum.inl ((), ())))
noncomputable def ratingCheck (l : List Int) : Option (Int) :=
  bif ((decide (((l.length : Nat) : Int) < (1 : Int))) || (decide (((l.length : Nat) : Int) > (64 : Int)))) then some (2 : Int)
  else Option.bind (α := ((Unit) × (Unit)) ⊕ Int) (iterW (ratingCheck_L1 l) (((0 : Int), ()), ())) (Sum.elim (fun x3 =>
  some (0 : Int)) some)
noncomputable def ratingCheckAll (l : List Int) (games : List (Int × Int × Int × Unit)) : Option (Int) :=
  Option.bind (ratingCheck l) fun r2 =>
  bif (r2 != (0 : Int)) then some r2
  else bif (decide (((games.length : Nat) : Int) > (256 : Int))) then some (2 : Int)
  else some (0 : Int)
noncomputable def slicesClone_int (s : List Int) : Option (List Int) :=
  bif (s.isEmpty) then (agree (some ([])) (req (room (([] : List Int).length + s.length) 8) (some (([] : List Int) ++ s))))
  else req (room (([] : List Int).length + s.length) 8) (some (([] : List Int) ++ s))
noncomputable def ratingChange (first : Int) (second : Int) (points : Int) (factor : Int) : Option (Int × Int × Unit) :=
  bif ((ratingOut first) || (ratingOut second)) then some ((0 : Int), ((4 : Int), ()))
  else bif ((decide (points < (0 : Int))) || (decide (points > (2 : Int)))) then some ((0 : Int), ((1 : Int), ()))
  else bif ((decide (factor < (1 : Int))) || (decide (factor > (64 : Int)))) then some ((0 : Int), ((4 : Int), ()))
  else Option.bind (ratingExpect (w64 (first - second))) fun r2 =>
  some ((w64 (factor * (w64 ((w64 ((50 : Int) * points)) - r2)))), ((0 : Int), ()))
noncomputable def ratingChange_i (l : List Int) (g : Int × Int × Int × Unit) (factor : Int) : Option (Int × Int × Unit) :=
  bif (((((decide (g.1 < (0 : Int))) || (decide (g.1 ≥ ((l.length : Nat) : Int)))) || (decide (g.2.1 < (0 : Int)))) || (decide (g.2.1 ≥ ((l.length : Nat) : Int)))) || (g.1 == g.2.1)) then some ((0 : Int), ((3 : Int), ()))
  else Option.bind (at? l g.1) fun d4 =>
  Option.bind (at? l g.2.1) fun d5 =>
  Option.bind (ratingChange d4 d5 g.2.2.1 factor) fun r6 =>
  some r6
noncomputable def ratingPeriod_L1 (games : List (Int × Int × Int × Unit)) (l : List Int) (factor : Int) (x6 : (Int × Unit) × ((List Int) × Unit)) : Option (((Int × Unit) × ((List Int) × Unit)) ⊕ (((Unit) × ((List Int) × Unit)) ⊕ ((List Int) × Int × Unit))) :=
  bif (decide (x6.1.1 < ((games.length : Nat) : Int))) then (Option.bind (at? games x6.1.1) fun d7 =>
  Option.bind (ratingChange_i l d7 factor) fun r8 =>
  bif (r8.2.1 != (0 : Int)) then some (Sum.inr (Sum.inr ([], r8.2)))
  else req (inb d7.1 x6.2.1.length) (req (inb d7.1 x6.2.1.length) (req (inb d7.2.1 (x6.2.1.set ((d7.1).toNat) (w64 ((getD' x6.2.1 ((d7.1).toNat) (0 : Int)) + r8.1))).length) (req (inb d7.2.1 (x6.2.1.set ((d7.1).toNat) (w64 ((getD' x6.2.1 ((d7.1).toNat) (0 : Int)) + r8.1))).length) (some (Sum.inl (((w64 (x6.1.1 + (1 : Int))), ()), (((x6.2.1.set ((d7.1).toNat) (w64 ((getD' x6.2.1 ((d7.1).toNat) (0 : Int)) + r8.1))).set ((d7.2.1).toNat) (w64 ((getD' (x6.2.1.set ((d7.1).toNat) (w64 ((getD' x6.2.1 ((d7.1).toNat) (0 : Int)) + r8.1))) ((d7.2.1).toNat) (0 : Int)) - r8.1))), ()))))))))
  else some (Sum.inr (Sum.inl ((), (x6.2.1, ()))))
noncomputable def ratingPeriod (l : List Int) (games : List (Int × Int × Int × Unit)) (factor : Int) : Option ((List Int) × Int × Unit) :=
  Option.bind (ratingCheckAll l games) fun r4 =>
  bif (r4 != (0 : Int)) then some ([], (r4, ()))
  else Option.bind (slicesClone_int l) fun r5 =>
  Option.bind (α := ((Unit) × ((List Int) × Unit)) ⊕ ((List Int) × Int × Unit)) (iterW (ratingPeriod_L1 games l factor) (((0 : Int), ()), (r5, ()))) (Sum.elim (fun x9 =>
  Option.bind (ratingCheck x9.2.1) fun r10 =>
  bif (r10 != (0 : Int)) then some ([], (r10, ()))
  else some (x9.2.1, ((0 : Int), ()))) some)
noncomputable def ratingPerformance_L2 (opponents : List Int) (x3 : (Int × Unit) × (Unit)) (x4 : (Int × Int × Unit) × (Unit)) : Option (((Int × Int × Unit) × (Unit)) ⊕ ((Int × Unit) × (Unit))) :=
  bif (decide (x4.1.2.1 < ((opponents.length : Nat) : Int))) then (Option.bind (at? opponents x4.1.2.1) fun d5 =>
  Option.bind (ratingExpect (w64 (x3.1.1 - d5))) fun r6 =>
  some (Sum.inl (((w64 (x4.1.1 + r6)), (w64 (x4.1.2.1 + (1 : Int))), ()), ())))
  else some (Sum.inr ((x4.1.1, ()), ()))
noncomputable def ratingPerformance_L1 (opponents : List Int) (points : Int) (x3 : (Int × Unit) × (Unit)) : Option (((Int × Unit) × (Unit)) ⊕ (((Unit) × (Unit)) ⊕ (Int × Int × Unit))) :=
  bif (decide (x3.1.1 ≥ (-1000000 : Int))) then (Option.bind (α := ((Unit) × (Unit)) ⊕ (((Int × Unit) × (Unit)) ⊕ (((Unit) × (Unit)) ⊕ (Int × Int × Unit)))) (Option.bind (iterW (ratingPerformance_L2 opponents x3) (((0 : Int), (0 : Int), ()), ())) fun x7 =>
  bif (decide (x7.1.1 ≤ (w64 ((50 : Int) * points)))) then some (Sum.inr (Sum.inr (Sum.inr (x3.1.1, ((0 : Int), ())))))
  else some (Sum.inl ((), ()))) (Sum.elim (fun x8 =>
  some (Sum.inl (((w64 (x3.1.1 - (100 : Int))), ()), ()))) some))
  else some (Sum.inr (Sum.inl ((), ())))
noncomputable def ratingPerformance (opponents : List Int) (points : Int) : Option (Int × Int × Unit) :=
  Option.bind (ratingCheck opponents) fun r2 =>
  bif (r2 != (0 : Int)) then some ((0 : Int), (r2, ()))
  else bif ((decide (points < (0 : Int))) || (decide (points > (w64 ((2 : Int) * ((opponents.length : Nat) : Int)))))) then some ((0 : Int), ((1 : Int), ()))
  else Option.bind (α := ((Unit) × (Unit)) ⊕ (Int × Int × Unit)) (iterW (ratingPerformance_L1 opponents points) (((1000000 : Int), ()), ())) (Sum.elim (fun x9 =>
  some ((0 : Int), ((8 : Int), ()))) some)
noncomputable def ref3Hundredths_L2 (x3 : (Int × Int × Unit) × (Unit)) (d : Int) (x4 : (Int × Int × Unit) × (Unit)) : Option (((Int × Int × Unit) × (Unit)) ⊕ ((Int × Unit) × (Unit))) :=
  bif (decide (x4.1.2.1 < (((getD' ([[(4 : Int), (11 : Int), (18 : Int), (26 : Int), (33 : Int), (40 : Int), (47 : Int), (54 : Int), (62 : Int), (69 : Int)], [(77 : Int), (84 : Int), (92 : Int), (99 : Int), (107 : Int), (114 : Int), (122 : Int), (130 : Int), (138 : Int), (146 : Int)], [(154 : Int), (163 : Int), (171 : Int), (180 : Int), (189 : Int), (198 : Int), (207 : Int), (216 : Int), (226 : Int), (236 : Int)], [(246 : Int), (257 : Int), (268 : Int), (279 : Int), (291 : Int), (303 : Int), (316 : Int), (329 : Int), (345 : Int), (358 : Int)], [(375 : Int), (392 : Int)]]) ((x3.1.2.1).toNat) []).length : Nat) : Int))) then (Option.bind (at? (getD' ([[(4 : Int), (11 : Int), (18 : Int), (26 : Int), (33 : Int), (40 : Int), (47 : Int), (54 : Int), (62 : Int), (69 : Int)], [(77 : Int), (84 : Int), (92 : Int), (99 : Int), (107 : Int), (114 : Int), (122 : Int), (130 : Int), (138 : Int), (146 : Int)], [(154 : Int), (163 : Int), (171 : Int), (180 : Int), (189 : Int), (198 : Int), (207 : Int), (216 : Int), (226 : Int), (236 : Int)], [(246 : Int), (257 : Int), (268 : Int), (279 : Int), (291 : Int), (303 : Int), (316 : Int), (329 : Int), (345 : Int), (358 : Int)], [(375 : Int), (392 : Int)]]) ((x3.1.2.1).toNat) []) x4.1.2.1) fun d5 =>
  Option.bind (bif (decide ((w64 (d.tdiv (100 : Int))) ≥ d5)) then some (((w64 (x4.1.1 + (1 : Int))), ()), ())
  else some ((x4.1.1, ()), ())) fun x6 =>
  some (Sum.inl ((x6.1.1, (w64 (x4.1.2.1 + (1 : Int))), ()), ())))
  else some (Sum.inr ((x4.1.1, ()), ()))
noncomputable def ref3Hundredths_L1 (d : Int) (x3 : (Int × Int × Unit) × (Unit)) : Option (((Int × Int × Unit) × (Unit)) ⊕ ((Int × Unit) × (Unit))) :=
  bif (decide (x3.1.2.1 < ((([[(4 : Int), (11 : Int), (18 : Int), (26 : Int), (33 : Int), (40 : Int), (47 : Int), (54 : Int), (62 : Int), (69 : Int)], [(77 : Int), (84 : Int), (92 : Int), (99 : Int), (107 : Int), (114 : Int), (122 : Int), (130 : Int), (138 : Int), (146 : Int)], [(154 : Int), (163 : Int), (171 : Int), (180 : Int), (189 : Int), (198 : Int), (207 : Int), (216 : Int), (226 : Int), (236 : Int)], [(246 : Int), (257 : Int), (268 : Int), (279 : Int), (291 : Int), (303 : Int), (316 : Int), (329 : Int), (345 : Int), (358 : Int)], [(375 : Int), (392 : Int)]]).length : Nat) : Int))) then (Option.bind (req (inb x3.1.2.1 ([[(4 : Int), (11 : Int), (18 : Int), (26 : Int), (33 : Int), (40 : Int), (47 : Int), (54 : Int), (62 : Int), (69 : Int)], [(77 : Int), (84 : Int), (92 : Int), (99 : Int), (107 : Int), (114 : Int), (122 : Int), (130 : Int), (138 : Int), (146 : Int)], [(154 : Int), (163 : Int), (171 : Int), (180 : Int), (189 : Int), (198 : Int), (207 : Int), (216 : Int), (226 : Int), (236 : Int)], [(246 : Int), (257 : Int), (268 : Int), (279 : Int), (291 : Int), (303 : Int), (316 : Int), (329 : Int), (345 : Int), (358 : Int)], [(375 : Int), (392 : Int)]]).length) (Option.bind (iterW (ref3Hundredths_L2 x3 d) ((x3.1.1, (0 : Int), ()), ())) fun x7 =>
  some ((x7.1.1, ()), ()))) fun x8 =>
  some (Sum.inl ((x8.1.1, (w64 (x3.1.2.1 + (1 : Int))), ()), ())))
  else some (Sum.inr ((x3.1.1, ()), ()))
noncomputable def ref3Hundredths_F (self : (Int × Unit) → Option (Int)) (d : Int) : Option (Int) :=
  bif (decide (d < (0 : Int))) then (Option.bind (self ((w64 (0 - d)), ())) fun r2 =>
  some (w64 ((100 : Int) - r2)))
  else Option.bind (iterW (ref3Hundredths_L1 d) (((0 : Int), (0 : Int), ()), ())) fun x9 =>
  some (w64 ((50 : Int) + x9.1.1))
noncomputable def ref3Hundredths_G (self : (Int × Unit) → Option (Int)) (x : Int × Unit) : Option (Int) := ref3Hundredths_F self x.1
noncomputable def ref3Hundredths (d : Int) : Option (Int) := fixW ref3Hundredths_G (d, ())
noncomputable def law3Gets_L1 (l : List Int) (n : Int) (x1 : (Int × Int × Unit) × (Unit)) : Option (((Int × Int × Unit) × (Unit)) ⊕ ((Int × Unit) × (Unit))) :=
  bif (decide (x1.1.2.1 < ((l.length : Nat) : Int))) then (Option.bind (at? l x1.1.2.1) fun d2 =>
  Option.bind (ref3Hundredths (w64 (n - d2))) fun r3 =>
  some (Sum.inl (((w64 (x1.1.1 + r3)), (w64 (x1.1.2.1 + (1 : Int))), ()), ())))
  else some (Sum.inr ((x1.1.1, ()), ()))
noncomputable def law3Gets (l : List Int) (n : Int) : Option (Int) :=
  Option.bind (iterW (law3Gets_L1 l n) (((0 : Int), (0 : Int), ()), ())) fun x4 =>
  some x4.1.1
noncomputable def law3SameInts_L1 (a : List Int) (b : List Int) (x1 : (Int × Unit) × (Unit)) : Option (((Int × Unit) × (Unit)) ⊕ (((Unit) × (Unit)) ⊕ Bool)) :=
  bif (decide (x1.1.1 < ((a.length : Nat) : Int))) then (Option.bind (at? a x1.1.1) fun d2 =>
  Option.bind (at? b x1.1.1) fun d3 =>
  bif (d2 != d3) then some (Sum.inr (Sum.inr false))
  else some (Sum.inl (((w64 (x1.1.1 + (1 : Int))), ()), ())))
  else some (Sum.inr (Sum.inl ((), ())))
noncomputable def law3SameInts (a : List Int) (b : List Int) : Option (Bool) :=
  bif (((a.length : Nat) : Int) != ((b.length : Nat) : Int)) then some false
  else Option.bind (α := ((Unit) × (Unit)) ⊕ Bool) (iterW (law3SameInts_L1 a b) (((0 : Int), ()), ())) (Sum.elim (fun x4 =>
  some true) some)
noncomputable def law3RatingPeriods_L1 (games : List (Int × Int × Int × Unit)) (l : List Int) (r8 : (List Int) × Int × Unit) (factor : Int) (x16 : (Int × Unit) × ((List Int) × Unit)) : Option (((Int × Unit) × ((List Int) × Unit)) ⊕ (((Unit) × ((List Int) × Unit)) ⊕ Bool)) :=
  bif (decide (x16.1.1 < ((((games.take ((if (30 : Int) < ((games.length : Nat) : Int) then (30 : Int) else ((games.length : Nat) : Int))).toNat).drop 0).length : Nat) : Int))) then (Option.bind (at? ((games.take ((if (30 : Int) < ((games.length : Nat) : Int) then (30 : Int) else ((games.length : Nat) : Int))).toNat).drop 0) x16.1.1) fun d17 =>
  bif (((decide ((if d17.2.1 < d17.1 then d17.2.1 else d17.1) < (0 : Int))) || (decide ((if d17.2.1 > d17.1 then d17.2.1 else d17.1) ≥ ((((l.take ((if (12 : Int) < ((l.length : Nat) : Int) then (12 : Int) else ((l.length : Nat) : Int))).toNat).drop 0).length : Nat) : Int)))) || (d17.1 == d17.2.1)) then some (Sum.inr (Sum.inr ((r8.2.1 == (3 : Int)) && (((r8.1.length : Nat) : Int) == (0 : Int)))))
  else bif ((decide (d17.2.2.1 < (0 : Int))) || (decide (d17.2.2.1 > (2 : Int)))) then some (Sum.inr (Sum.inr ((r8.2.1 == (1 : Int)) && (((r8.1.length : Nat) : Int) == (0 : Int)))))
  else bif ((decide (factor < (1 : Int))) || (decide (factor > (64 : Int)))) then some (Sum.inr (Sum.inr ((r8.2.1 == (4 : Int)) && (((r8.1.length : Nat) : Int) == (0 : Int)))))
  else Option.bind (at? ((l.take ((if (12 : Int) < ((l.length : Nat) : Int) then (12 : Int) else ((l.length : Nat) : Int))).toNat).drop 0) d17.1) fun d18 =>
  Option.bind (at? ((l.take ((if (12 : Int) < ((l.length : Nat) : Int) then (12 : Int) else ((l.length : Nat) : Int))).toNat).drop 0) d17.2.1) fun d19 =>
  Option.bind (ref3Hundredths (w64 (d18 - d19))) fun r20 =>
  req (inb d17.1 x16.2.1.length) (req (inb d17.1 x16.2.1.length) (req (inb d17.2.1 (x16.2.1.set ((d17.1).toNat) (w64 ((getD' x16.2.1 ((d17.1).toNat) (0 : Int)) + (w64 (factor * (w64 ((w64 ((50 : Int) * d17.2.2.1)) - r20))))))).length) (req (inb d17.2.1 (x16.2.1.set ((d17.1).toNat) (w64 ((getD' x16.2.1 ((d17.1).toNat) (0 : Int)) + (w64 (factor * (w64 ((w64 ((50 : Int) * d17.2.2.1)) - r20))))))).length) (some (Sum.inl (((w64 (x16.1.1 + (1 : Int))), ()), (((x16.2.1.set ((d17.1).toNat) (w64 ((getD' x16.2.1 ((d17.1).toNat) (0 : Int)) + (w64 (factor * (w64 ((w64 ((50 : Int) * d17.2.2.1)) - r20))))))).set ((d17.2.1).toNat) (w64 ((getD' (x16.2.1.set ((d17.1).toNat) (w64 ((getD' x16.2.1 ((d17.1).toNat) (0 : Int)) + (w64 (factor * (w64 ((w64 ((50 : Int) * d17.2.2.1)) - r20))))))) ((d17.2.1).toNat) (0 : Int)) - (w64 (factor * (w64 ((w64 ((50 : Int) * d17.2.2.1)) - r20))))))), ()))))))))
  else some (Sum.inr (Sum.inl ((), (x16.2.1, ()))))
noncomputable def law3RatingPeriods (l : List Int) (games : List (Int × Int × Int × Unit)) (factor : Int) (points : Int) : Option (Bool) :=
  Option.bind (law3Rates) fun r7 =>
  bif (!r7) then some false
  else req (boundsI (0 : Int) (if (12 : Int) < ((l.length : Nat) : Int) then (12 : Int) else ((l.length : Nat) : Int)) l.length) (req (boundsI (0 : Int) (if (30 : Int) < ((games.length : Nat) : Int) then (30 : Int) else ((games.length : Nat) : Int)) games.length) (Option.bind (ratingPeriod ((l.take ((if (12 : Int) < ((l.length : Nat) : Int) then (12 : Int) else ((l.length : Nat) : Int))).toNat).drop 0) ((games.take ((if (30 : Int) < ((games.length : Nat) : Int) then (30 : Int) else ((games.length : Nat) : Int))).toNat).drop 0) factor) fun r8 =>
  Option.bind (ratingPerformance ((l.take ((if (12 : Int) < ((l.length : Nat) : Int) then (12 : Int) else ((l.length : Nat) : Int))).toNat).drop 0) points) fun r9 =>
  Option.bind (ratingCheck ((l.take ((if (12 : Int) < ((l.length : Nat) : Int) then (12 : Int) else ((l.length : Nat) : Int))).toNat).drop 0)) fun r10 =>
  bif (r10 != (0 : Int)) then some (((r8.2.1 == r10) && (r9.2.1 == r10)) && ((w64 (((r8.1.length : Nat) : Int) + r9.1)) == (0 : Int)))
  else Option.bind (α := ((Unit) × (Unit)) ⊕ Bool) (bif ((decide (points < (0 : Int))) || (decide (points > (w64 ((2 : Int) * ((((l.take ((if (12 : Int) < ((l.length : Nat) : Int) then (12 : Int) else ((l.length : Nat) : Int))).toNat).drop 0).length : Nat) : Int)))))) then (bif ((r9.2.1 != (1 : Int)) || (r9.1 != (0 : Int))) then some (Sum.inr false)
  else some (Sum.inl ((), ())))
  else Option.bind (α := ((Unit) × (Unit)) ⊕ (((Unit) × (Unit)) ⊕ Bool)) (bif (r9.2.1 == (0 : Int)) then (Option.bind (gopt (!((r9.1.tmod (100 : Int)) != (0 : Int))) (0 : Int) (law3Gets ((l.take ((if (12 : Int) < ((l.length : Nat) : Int) then (12 : Int) else ((l.length : Nat) : Int))).toNat).drop 0) r9.1)) fun r11 =>
  Option.bind (gopt ((decide (r9.1 < (1000000 : Int))) && (!(((r9.1.tmod (100 : Int)) != (0 : Int)) || (decide (r11 > (w64 ((50 : Int) * points))))))) (0 : Int) (law3Gets ((l.take ((if (12 : Int) < ((l.length : Nat) : Int) then (12 : Int) else ((l.length : Nat) : Int))).toNat).drop 0) (w64 (r9.1 + (100 : Int))))) fun r12 =>
  bif ((((r9.1.tmod (100 : Int)) != (0 : Int)) || (decide (r11 > (w64 ((50 : Int) * points))))) || ((decide (r9.1 < (1000000 : Int))) && (decide (r12 ≤ (w64 ((50 : Int) * points)))))) then some (Sum.inr (Sum.inr false))
  else some (Sum.inl ((), ())))
  else Option.bind (gopt (!(r9.2.1 != (8 : Int))) (0 : Int) (law3Gets ((l.take ((if (12 : Int) < ((l.length : Nat) : Int) then (12 : Int) else ((l.length : Nat) : Int))).toNat).drop 0) (-1000000 : Int))) fun r13 =>
  bif ((r9.2.1 != (8 : Int)) || (decide (r13 ≤ (w64 ((50 : Int) * points))))) then some (Sum.inr (Sum.inr false))
  else some (Sum.inl ((), ()))) (Sum.elim (fun x14 =>
  some (Sum.inl ((), ()))) some)) (Sum.elim (fun x15 =>
  req (room (([] : List Int).length + ((l.take ((if (12 : Int) < ((l.length : Nat) : Int) then (12 : Int) else ((l.length : Nat) : Int))).toNat).drop 0).length) 8) (Option.bind (α := ((Unit) × ((List Int) × Unit)) ⊕ Bool) (iterW (law3RatingPeriods_L1 games l r8 factor) (((0 : Int), ()), ((([] : List Int) ++ ((l.take ((if (12 : Int) < ((l.length : Nat) : Int) then (12 : Int) else ((l.length : Nat) : Int))).toNat).drop 0)), ()))) (Sum.elim (fun x21 =>
  Option.bind (ratingCheck x21.2.1) fun r22 =>
  bif (r22 != (0 : Int)) then some ((r8.2.1 == r22) && (((r8.1.length : Nat) : Int) == (0 : Int)))
  else Option.bind (gopt (r8.2.1 == (0 : Int)) false (law3SameInts r8.1 x21.2.1)) fun r23 =>
  some ((r8.2.1 == (0 : Int)) && r23)) some))) some)))
end Go.Proofs.Ytejmikpmkfnlgaa
