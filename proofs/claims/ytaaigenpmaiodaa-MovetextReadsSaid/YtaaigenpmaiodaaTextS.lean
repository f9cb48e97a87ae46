/- What functions compute, in plain Lean: Text. No condition of its own. -/
import Derived.Test.YtaaigenpmaiodaaDen0
import Derived.Test.YtaaigenpmaiodaaGameS
namespace Go.Proofs.Ytaaigenpmaiodaa
open Go.Den
set_option linter.unusedVariables false
set_option maxRecDepth 100000
noncomputable def movetextLetter (r : ByteArray × Int × Int × (List (Int × Int × Int × (List (Int × Int × Int × Int × Unit)) × Unit)) × (List Int) × Bool × Bool × (List (Int × Int × Int × Bool × Unit)) × Int × Int × Int × Unit) (k : Int) : Option (ByteArray) :=
  Option.bind (at? r.2.2.2.1 k) fun d2 =>
  some (Go.Utf8.encode (IntKind.wrap .i32 d2.1))
noncomputable def movetextColumn (r : ByteArray × Int × Int × (List (Int × Int × Int × (List (Int × Int × Int × Int × Unit)) × Unit)) × (List Int) × Bool × Bool × (List (Int × Int × Int × Bool × Unit)) × Int × Int × Int × Unit) (n : Int) : Option (ByteArray) :=
  req (r.2.1 != 0) (some (Go.Utf8.encode (IntKind.wrap .i32 (w64 ((97 : Int) + (n.tmod r.2.1))))))
noncomputable def movetextRow (r : ByteArray × Int × Int × (List (Int × Int × Int × (List (Int × Int × Int × Int × Unit)) × Unit)) × (List Int) × Bool × Bool × (List (Int × Int × Int × Bool × Unit)) × Int × Int × Int × Unit) (n : Int) : Option (ByteArray) :=
  req (r.2.1 != 0) (some (Go.Utf8.encode (IntKind.wrap .i32 (w64 ((49 : Int) + (w64 (n.tdiv r.2.1)))))))
noncomputable def movetextSquare (r : ByteArray × Int × Int × (List (Int × Int × Int × (List (Int × Int × Int × Int × Unit)) × Unit)) × (List Int) × Bool × Bool × (List (Int × Int × Int × Bool × Unit)) × Int × Int × Int × Unit) (n : Int) : Option (ByteArray) :=
  Option.bind (movetextColumn r n) fun r3 =>
  Option.bind (movetextRow r n) fun r4 =>
  req (strRoom r3 r4) (some (r3 ++ r4))
noncomputable def movetextMark_L1 (l : List (Int × Int × Int × Unit)) (m : Int × Int × Int × Unit) (p : (List Int) × ((List Int) × (List Int) × Unit) × Int × Int × Unit) (x2 : (Int × Unit) × (((List Int) × Unit) × Unit)) : Option (((Int × Unit) × (((List Int) × Unit) × Unit)) ⊕ ((Unit) × (((List Int) × Unit) × Unit))) :=
  bif (decide (x2.1.1 < ((l.length : Nat) : Int))) then (Option.bind (at? l x2.1.1) fun d3 =>
  Option.bind (gat (((decide (d3.1 ≥ (0 : Int))) && (d3.1 != m.1)) && (d3.2.1 == m.2.1)) (0 : Int) p.1 d3.1) fun d4 =>
  Option.bind (gat (((decide (d3.1 ≥ (0 : Int))) && (d3.1 != m.1)) && (d3.2.1 == m.2.1)) (0 : Int) p.1 m.1) fun d5 =>
  Option.bind (bif ((((decide (d3.1 ≥ (0 : Int))) && (d3.1 != m.1)) && (d3.2.1 == m.2.1)) && (d4 == d5)) then req (room (x2.2.1.1.length + ([d3.1]).length) 8) (some ((), (((x2.2.1.1 ++ [d3.1]), ()), ())))
  else some ((), ((x2.2.1.1, ()), ()))) fun x6 =>
  some (Sum.inl (((w64 (x2.1.1 + (1 : Int))), ()), ((x6.2.1.1, ()), ()))))
  else some (Sum.inr ((), ((x2.2.1.1, ()), ())))
noncomputable def movetextMark_L3 (x7 : (Unit) × (((List Int) × Unit) × Unit)) (r : ByteArray × Int × Int × (List (Int × Int × Int × (List (Int × Int × Int × Int × Unit)) × Unit)) × (List Int) × Bool × Bool × (List (Int × Int × Int × Bool × Unit)) × Int × Int × Int × Unit) (m : Int × Int × Int × Unit) (x10 : (Int × Unit) × (Unit)) : Option (((Int × Unit) × (Unit)) ⊕ (((Unit) × (Unit)) ⊕ ByteArray)) :=
  bif (decide (x10.1.1 < ((x7.2.1.1.length : Nat) : Int))) then (req (inb x10.1.1 x7.2.1.1.length) (req (r.2.1 != 0) (req (r.2.1 != 0) (bif ((w64 ((getD' x7.2.1.1 ((x10.1.1).toNat) (0 : Int)).tdiv r.2.1)) == (w64 (m.1.tdiv r.2.1))) then (Option.map Sum.inr (Option.map Sum.inr (bif (!(decide (x10.1.1 ≥ (0 : Int)))) then (Option.bind (movetextRow r m.1) fun r11 =>
  some r11)
  else Option.bind (movetextSquare r m.1) fun r12 =>
  some r12)))
  else some (Sum.inl (((w64 (x10.1.1 + (1 : Int))), ()), ()))))))
  else some (Sum.inr (Sum.inl ((), ())))
noncomputable def movetextMark_L2 (x7 : (Unit) × (((List Int) × Unit) × Unit)) (r : ByteArray × Int × Int × (List (Int × Int × Int × (List (Int × Int × Int × Int × Unit)) × Unit)) × (List Int) × Bool × Bool × (List (Int × Int × Int × Bool × Unit)) × Int × Int × Int × Unit) (m : Int × Int × Int × Unit) (x8 : (Int × Unit) × (Unit)) : Option (((Int × Unit) × (Unit)) ⊕ (((Unit) × (Unit)) ⊕ ByteArray)) :=
  bif (decide (x8.1.1 < ((x7.2.1.1.length : Nat) : Int))) then (req (inb x8.1.1 x7.2.1.1.length) (req (r.2.1 != 0) (req (r.2.1 != 0) (bif (((getD' x7.2.1.1 ((x8.1.1).toNat) (0 : Int)).tmod r.2.1) == (m.1.tmod r.2.1)) then (Option.map Sum.inr (Option.map Sum.inr (bif (!(decide (x8.1.1 ≥ (0 : Int)))) then (Option.bind (movetextColumn r m.1) fun r9 =>
  some r9)
  else Option.bind (α := ((Unit) × (Unit)) ⊕ ByteArray) (iterW (movetextMark_L3 x7 r m) (((0 : Int), ()), ())) (Sum.elim (fun x13 =>
  Option.bind (movetextRow r m.1) fun r14 =>
  some r14) some))))
  else some (Sum.inl (((w64 (x8.1.1 + (1 : Int))), ()), ()))))))
  else some (Sum.inr (Sum.inl ((), ())))
noncomputable def movetextMark (r : ByteArray × Int × Int × (List (Int × Int × Int × (List (Int × Int × Int × Int × Unit)) × Unit)) × (List Int) × Bool × Bool × (List (Int × Int × Int × Bool × Unit)) × Int × Int × Int × Unit) (p : (List Int) × ((List Int) × (List Int) × Unit) × Int × Int × Unit) (l : List (Int × Int × Int × Unit)) (m : Int × Int × Int × Unit) : Option (ByteArray) :=
  Option.bind (iterW (movetextMark_L1 l m p) (((0 : Int), ()), ((([] : List Int), ()), ()))) fun x7 =>
  bif (((x7.2.1.1.length : Nat) : Int) == (0 : Int)) then some (ByteArray.mk #[])
  else Option.bind (α := ((Unit) × (Unit)) ⊕ ByteArray) (iterW (movetextMark_L2 x7 r m) (((0 : Int), ()), ())) (Sum.elim (fun x15 =>
  Option.bind (movetextColumn r m.1) fun r16 =>
  some r16) some)
noncomputable def movetextOf (r : ByteArray × Int × Int × (List (Int × Int × Int × (List (Int × Int × Int × Int × Unit)) × Unit)) × (List Int) × Bool × Bool × (List (Int × Int × Int × Bool × Unit)) × Int × Int × Int × Unit) (p : (List Int) × ((List Int) × (List Int) × Unit) × Int × Int × Unit) (l : List (Int × Int × Int × Unit)) (m : Int × Int × Int × Unit) : Option (ByteArray) :=
  bif (decide (m.1 < (0 : Int))) then (Option.bind (movetextLetter r m.2.2.1) fun r8 =>
  req (strRoom r8 (ByteArray.mk #[64])) (Option.bind (movetextSquare r m.2.1) fun r9 =>
  req (strRoom (r8 ++ (ByteArray.mk #[64])) r9) (some ((r8 ++ (ByteArray.mk #[64])) ++ r9))))
  else Option.bind (at? p.1 m.1) fun d10 =>
  Option.bind (movetextLetter r (w64 ((w64 (d10 - (1 : Int))).tdiv (2 : Int)))) fun r11 =>
  Option.bind (movetextMark r p l m) fun r12 =>
  req (strRoom r11 r12) (Option.bind (at? p.1 m.2.1) fun d13 =>
  Option.bind (bif (d13 != (0 : Int)) then req (strRoom (r11 ++ r12) (ByteArray.mk #[120])) (some ((((r11 ++ r12) ++ (ByteArray.mk #[120])), ()), ()))
  else some (((r11 ++ r12), ()), ())) fun x14 =>
  Option.bind (movetextSquare r m.2.1) fun r15 =>
  req (strRoom x14.1.1 r15) (Option.bind (bif (m.2.2.1 != (w64 ((w64 (d10 - (1 : Int))).tdiv (2 : Int)))) then (Option.bind (movetextLetter r m.2.2.1) fun r16 =>
  req (strRoom (ByteArray.mk #[61]) r16) (req (strRoom (x14.1.1 ++ r15) ((ByteArray.mk #[61]) ++ r16)) (some ((((x14.1.1 ++ r15) ++ ((ByteArray.mk #[61]) ++ r16)), ()), ()))))
  else some (((x14.1.1 ++ r15), ()), ())) fun x17 =>
  some x17.1.1))
noncomputable def movetextText (r : ByteArray × Int × Int × (List (Int × Int × Int × (List (Int × Int × Int × Int × Unit)) × Unit)) × (List Int) × Bool × Bool × (List (Int × Int × Int × Bool × Unit)) × Int × Int × Int × Unit) (p : (List Int) × ((List Int) × (List Int) × Unit) × Int × Int × Unit) (m : Int × Int × Int × Unit) : Option (ByteArray × Int × Unit) :=
  Option.bind (movesAll r p) fun r4 =>
  bif (r4.2.1 != (0 : Int)) then some ((ByteArray.mk #[]), r4.2)
  else Option.bind (slicesContains_Move r4.1 m) fun r5 =>
  bif (!r5) then some ((ByteArray.mk #[]), ((13 : Int), ()))
  else Option.bind (movetextOf r p r4.1 m) fun r6 =>
  some (r6, ((0 : Int), ()))
noncomputable def movetextList_L1 (r2 : (List (Int × Int × Int × Unit)) × Int × Unit) (r : ByteArray × Int × Int × (List (Int × Int × Int × (List (Int × Int × Int × Int × Unit)) × Unit)) × (List Int) × Bool × Bool × (List (Int × Int × Int × Bool × Unit)) × Int × Int × Int × Unit) (p : (List Int) × ((List Int) × (List Int) × Unit) × Int × Int × Unit) (x3 : ((List ByteArray) × Int × Unit) × (Unit)) : Option ((((List ByteArray) × Int × Unit) × (Unit)) ⊕ (((List ByteArray) × Unit) × (Unit))) :=
  bif (decide (x3.1.2.1 < ((r2.1.length : Nat) : Int))) then (req (inb x3.1.2.1 r2.1.length) (Option.bind (movetextOf r p r2.1 (getD' r2.1 ((x3.1.2.1).toNat) ((0 : Int), ((0 : Int), ((0 : Int), ()))))) fun r4 =>
  req (room (x3.1.1.length + ([r4]).length) 16) (some (Sum.inl (((x3.1.1 ++ [r4]), (w64 (x3.1.2.1 + (1 : Int))), ()), ())))))
  else some (Sum.inr ((x3.1.1, ()), ()))
noncomputable def movetextList (r : ByteArray × Int × Int × (List (Int × Int × Int × (List (Int × Int × Int × Int × Unit)) × Unit)) × (List Int) × Bool × Bool × (List (Int × Int × Int × Bool × Unit)) × Int × Int × Int × Unit) (p : (List Int) × ((List Int) × (List Int) × Unit) × Int × Int × Unit) : Option ((List ByteArray) × Int × Unit) :=
  Option.bind (movesAll r p) fun r2 =>
  bif (r2.2.1 != (0 : Int)) then some (([] : List ByteArray), r2.2)
  else Option.bind (iterW (movetextList_L1 r2 r p) ((([] : List ByteArray), (0 : Int), ()), ())) fun x5 =>
  some (x5.1.1, ((0 : Int), ()))
noncomputable def movetextRead_L1 (r2 : (List (Int × Int × Int × Unit)) × Int × Unit) (r : ByteArray × Int × Int × (List (Int × Int × Int × (List (Int × Int × Int × Int × Unit)) × Unit)) × (List Int) × Bool × Bool × (List (Int × Int × Int × Bool × Unit)) × Int × Int × Int × Unit) (p : (List Int) × ((List Int) × (List Int) × Unit) × Int × Int × Unit) (s : ByteArray) (x3 : (Int × Unit) × (Unit)) : Option (((Int × Unit) × (Unit)) ⊕ (((Unit) × (Unit)) ⊕ ((Int × Int × Int × Unit) × Int × Unit))) :=
  bif (decide (x3.1.1 < ((r2.1.length : Nat) : Int))) then (req (inb x3.1.1 r2.1.length) (Option.bind (movetextOf r p r2.1 (getD' r2.1 ((x3.1.1).toNat) ((0 : Int), ((0 : Int), ((0 : Int), ()))))) fun r4 =>
  bif (r4.toList == s.toList) then (Option.map Sum.inr (Option.map Sum.inr (bif (decide (x3.1.1 < (0 : Int))) then some (((0 : Int), ((0 : Int), ((0 : Int), ()))), ((13 : Int), ()))
  else req (inb x3.1.1 r2.1.length) (some ((getD' r2.1 ((x3.1.1).toNat) ((0 : Int), ((0 : Int), ((0 : Int), ())))), ((0 : Int), ()))))))
  else some (Sum.inl (((w64 (x3.1.1 + (1 : Int))), ()), ()))))
  else some (Sum.inr (Sum.inl ((), ())))
noncomputable def movetextRead (r : ByteArray × Int × Int × (List (Int × Int × Int × (List (Int × Int × Int × Int × Unit)) × Unit)) × (List Int) × Bool × Bool × (List (Int × Int × Int × Bool × Unit)) × Int × Int × Int × Unit) (p : (List Int) × ((List Int) × (List Int) × Unit) × Int × Int × Unit) (s : ByteArray) : Option ((Int × Int × Int × Unit) × Int × Unit) :=
  Option.bind (movesAll r p) fun r2 =>
  bif (r2.2.1 != (0 : Int)) then some (((0 : Int), ((0 : Int), ((0 : Int), ()))), r2.2)
  else Option.bind (α := ((Unit) × (Unit)) ⊕ ((Int × Int × Int × Unit) × Int × Unit)) (iterW (movetextRead_L1 r2 r p s) (((0 : Int), ()), ())) (Sum.elim (fun x5 =>
  some (((0 : Int), ((0 : Int), ((0 : Int), ()))), ((13 : Int), ()))) some)
noncomputable def ref3Square (width : Int) (n : Int) : Option (ByteArray) :=
  req (width != 0) (Option.bind (strAt (ByteArray.mk #[97, 98, 99, 100, 101, 102, 103, 104]) (n.tmod width)) fun c3 =>
  req (width != 0) (Option.bind (strAt (ByteArray.mk #[49, 50, 51, 52, 53, 54, 55, 56]) (w64 (n.tdiv width))) fun c4 =>
  req (strRoom (Go.Utf8.encode ((c3.toNat : Nat) : Int)) (Go.Utf8.encode ((c4.toNat : Nat) : Int))) (some ((Go.Utf8.encode ((c3.toNat : Nat) : Int)) ++ (Go.Utf8.encode ((c4.toNat : Nat) : Int))))))
noncomputable def ref3MoveText_L2 (r9 : (List (Int × Int × Int × Unit)) × Int × Unit) (m : Int × Int × Int × Unit) (p : (List Int) × ((List Int) × (List Int) × Unit) × Int × Int × Unit) (d8 : Int) (r : ByteArray × Int × Int × (List (Int × Int × Int × (List (Int × Int × Int × Int × Unit)) × Unit)) × (List Int) × Bool × Bool × (List (Int × Int × Int × Bool × Unit)) × Int × Int × Int × Unit) (r10 : ByteArray) (x11 : (Int × Unit) × (Unit)) (x12 : (Bool × Int × Unit) × (Unit)) : Option (((Bool × Int × Unit) × (Unit)) ⊕ ((Bool × Unit) × (Unit))) :=
  bif (decide (x12.1.2.1 < ((r9.1.length : Nat) : Int))) then (Option.bind (req (inb x12.1.2.1 r9.1.length) (Option.bind (gat (!(((decide ((getD' r9.1 ((x12.1.2.1).toNat) ((0 : Int), ((0 : Int), ((0 : Int), ())))).1 < (0 : Int))) || (((getD' r9.1 ((x12.1.2.1).toNat) ((0 : Int), ((0 : Int), ((0 : Int), ())))).2).1 != m.2.1)) || ((getD' r9.1 ((x12.1.2.1).toNat) ((0 : Int), ((0 : Int), ((0 : Int), ())))).1 == m.1))) (0 : Int) p.1 ((getD' r9.1 ((x12.1.2.1).toNat) ((0 : Int), ((0 : Int), ((0 : Int), ())))).1)) fun d13 =>
  bif ((((decide ((getD' r9.1 ((x12.1.2.1).toNat) ((0 : Int), ((0 : Int), ((0 : Int), ())))).1 < (0 : Int))) || (((getD' r9.1 ((x12.1.2.1).toNat) ((0 : Int), ((0 : Int), ((0 : Int), ())))).2).1 != m.2.1)) || ((getD' r9.1 ((x12.1.2.1).toNat) ((0 : Int), ((0 : Int), ((0 : Int), ())))).1 == m.1)) || (d13 != d8)) then some ((x12.1.1, ()), ())
  else Option.bind (ref3Square r.2.1 ((getD' r9.1 ((x12.1.2.1).toNat) ((0 : Int), ((0 : Int), ((0 : Int), ())))).1)) fun r14 =>
  req (imp (!((getD' ([(ByteArray.mk #[]), (r10.extract 0 1), (r10.extract 1 (((r10.size : Nat) : Int)).toNat), r10]) ((x11.1.1).toNat) ByteArray.empty).toList == (ByteArray.mk #[]).toList)) (boundsI (0 : Int) (1 : Int) r14.size)) (req (imp (!(((getD' ([(ByteArray.mk #[]), (r10.extract 0 1), (r10.extract 1 (((r10.size : Nat) : Int)).toNat), r10]) ((x11.1.1).toNat) ByteArray.empty).toList == (ByteArray.mk #[]).toList) || ((getD' ([(ByteArray.mk #[]), (r10.extract 0 1), (r10.extract 1 (((r10.size : Nat) : Int)).toNat), r10]) ((x11.1.1).toNat) ByteArray.empty).toList == (r14.extract 0 1).toList))) (boundsI (1 : Int) ((r14.size : Nat) : Int) r14.size)) (Option.bind (bif (((((getD' ([(ByteArray.mk #[]), (r10.extract 0 1), (r10.extract 1 (((r10.size : Nat) : Int)).toNat), r10]) ((x11.1.1).toNat) ByteArray.empty).toList == (ByteArray.mk #[]).toList) || ((getD' ([(ByteArray.mk #[]), (r10.extract 0 1), (r10.extract 1 (((r10.size : Nat) : Int)).toNat), r10]) ((x11.1.1).toNat) ByteArray.empty).toList == (r14.extract 0 1).toList)) || ((getD' ([(ByteArray.mk #[]), (r10.extract 0 1), (r10.extract 1 (((r10.size : Nat) : Int)).toNat), r10]) ((x11.1.1).toNat) ByteArray.empty).toList == (r14.extract 1 (((r14.size : Nat) : Int)).toNat).toList)) || ((getD' ([(ByteArray.mk #[]), (r10.extract 0 1), (r10.extract 1 (((r10.size : Nat) : Int)).toNat), r10]) ((x11.1.1).toNat) ByteArray.empty).toList == r14.toList)) then some ((false, ()), ())
  else some ((x12.1.1, ()), ())) fun x15 =>
  some ((x15.1.1, ()), ()))))) fun x16 =>
  some (Sum.inl ((x16.1.1, (w64 (x12.1.2.1 + (1 : Int))), ()), ())))
  else some (Sum.inr ((x12.1.1, ()), ()))
noncomputable def ref3MoveText_L1 (r10 : ByteArray) (r9 : (List (Int × Int × Int × Unit)) × Int × Unit) (m : Int × Int × Int × Unit) (p : (List Int) × ((List Int) × (List Int) × Unit) × Int × Int × Unit) (d8 : Int) (r : ByteArray × Int × Int × (List (Int × Int × Int × (List (Int × Int × Int × Int × Unit)) × Unit)) × (List Int) × Bool × Bool × (List (Int × Int × Int × Bool × Unit)) × Int × Int × Int × Unit) (r6 : ByteArray) (x11 : (Int × Unit) × (Unit)) : Option (((Int × Unit) × (Unit)) ⊕ (((Unit) × (Unit)) ⊕ ByteArray)) :=
  bif (decide (x11.1.1 < ((([(ByteArray.mk #[]), (r10.extract 0 1), (r10.extract 1 (((r10.size : Nat) : Int)).toNat), r10]).length : Nat) : Int))) then (Option.bind (α := ((Unit) × (Unit)) ⊕ (((Int × Unit) × (Unit)) ⊕ (((Unit) × (Unit)) ⊕ ByteArray))) (req (inb x11.1.1 ([(ByteArray.mk #[]), (r10.extract 0 1), (r10.extract 1 (((r10.size : Nat) : Int)).toNat), r10]).length) (Option.bind (iterW (ref3MoveText_L2 r9 m p d8 r r10 x11) ((true, (0 : Int), ()), ())) fun x17 =>
  bif ((!x17.1.1) && (!((getD' ([(ByteArray.mk #[]), (r10.extract 0 1), (r10.extract 1 (((r10.size : Nat) : Int)).toNat), r10]) ((x11.1.1).toNat) ByteArray.empty).toList == r10.toList))) then some (Sum.inl ((), ()))
  else Option.bind (at? r.2.2.2.1 (w64 ((w64 (d8 - (1 : Int))).tdiv (2 : Int)))) fun d18 =>
  req (strRoom (Go.Utf8.encode d18.1) (getD' ([(ByteArray.mk #[]), (r10.extract 0 1), (r10.extract 1 (((r10.size : Nat) : Int)).toNat), r10]) ((x11.1.1).toNat) ByteArray.empty)) (Option.bind (at? p.1 m.2.1) fun d19 =>
  Option.bind (bif (decide (d19 > (0 : Int))) then req (strRoom ((Go.Utf8.encode d18.1) ++ (getD' ([(ByteArray.mk #[]), (r10.extract 0 1), (r10.extract 1 (((r10.size : Nat) : Int)).toNat), r10]) ((x11.1.1).toNat) ByteArray.empty)) (ByteArray.mk #[120])) (some (((((Go.Utf8.encode d18.1) ++ (getD' ([(ByteArray.mk #[]), (r10.extract 0 1), (r10.extract 1 (((r10.size : Nat) : Int)).toNat), r10]) ((x11.1.1).toNat) ByteArray.empty)) ++ (ByteArray.mk #[120])), ()), ()))
  else some ((((Go.Utf8.encode d18.1) ++ (getD' ([(ByteArray.mk #[]), (r10.extract 0 1), (r10.extract 1 (((r10.size : Nat) : Int)).toNat), r10]) ((x11.1.1).toNat) ByteArray.empty)), ()), ())) fun x20 =>
  req (strRoom x20.1.1 r6) (Option.bind (bif ((w64 ((w64 ((w64 ((2 : Int) * m.2.2.1)) + p.2.2.1)) + (1 : Int))) != d8) then (Option.bind (at? r.2.2.2.1 m.2.2.1) fun d21 =>
  req (strRoom (ByteArray.mk #[61]) (Go.Utf8.encode d21.1)) (req (strRoom (x20.1.1 ++ r6) ((ByteArray.mk #[61]) ++ (Go.Utf8.encode d21.1))) (some ((((x20.1.1 ++ r6) ++ ((ByteArray.mk #[61]) ++ (Go.Utf8.encode d21.1))), ()), ()))))
  else some (((x20.1.1 ++ r6), ()), ())) fun x22 =>
  some (Sum.inr (Sum.inr (Sum.inr x22.1.1))))))) (Sum.elim (fun x23 =>
  some (Sum.inl (((w64 (x11.1.1 + (1 : Int))), ()), ()))) some))
  else some (Sum.inr (Sum.inl ((), ())))
noncomputable def ref3MoveText (r : ByteArray × Int × Int × (List (Int × Int × Int × (List (Int × Int × Int × Int × Unit)) × Unit)) × (List Int) × Bool × Bool × (List (Int × Int × Int × Bool × Unit)) × Int × Int × Int × Unit) (p : (List Int) × ((List Int) × (List Int) × Unit) × Int × Int × Unit) (m : Int × Int × Int × Unit) : Option (ByteArray) :=
  Option.bind (ref3Square r.2.1 m.2.1) fun r6 =>
  bif (decide (m.1 < (0 : Int))) then (Option.bind (at? r.2.2.2.1 m.2.2.1) fun d7 =>
  req (strRoom (Go.Utf8.encode d7.1) (ByteArray.mk #[64])) (req (strRoom ((Go.Utf8.encode d7.1) ++ (ByteArray.mk #[64])) r6) (some (((Go.Utf8.encode d7.1) ++ (ByteArray.mk #[64])) ++ r6))))
  else Option.bind (at? p.1 m.1) fun d8 =>
  Option.bind (movesAll r p) fun r9 =>
  Option.bind (ref3Square r.2.1 m.1) fun r10 =>
  req (boundsI (0 : Int) (1 : Int) r10.size) (req (boundsI (1 : Int) ((r10.size : Nat) : Int) r10.size) (Option.bind (α := ((Unit) × (Unit)) ⊕ ByteArray) (iterW (ref3MoveText_L1 r10 r9 m p d8 r r6) (((0 : Int), ()), ())) (Sum.elim (fun x24 =>
  some (ByteArray.mk #[])) some)))
noncomputable def law3Writes : Option (Bool) :=
  Option.bind (placeBegin ((law3Tic).1, (((law3Tic).2).1, ((((law3Tic).2).2).1, (((((law3Tic).2).2).2).1, ((((((law3Tic).2).2).2).2).1, (((((((law3Tic).2).2).2).2).2).1, ((((((((law3Tic).2).2).2).2).2).2).1, (((((((((law3Tic).2).2).2).2).2).2).2).1, ((((((((((law3Tic).2).2).2).2).2).2).2).2).1, (((((((((((law3Tic).2).2).2).2).2).2).2).2).2).1, ((((((((((((law3Tic).2).2).2).2).2).2).2).2).2).2).1, ())))))))))))) fun r2 =>
  Option.bind (agree (agree (Option.bind (movetextText ((law3Tic).1, (((law3Tic).2).1, ((((law3Tic).2).2).1, (((((law3Tic).2).2).2).1, ((((((law3Tic).2).2).2).2).1, (((((((law3Tic).2).2).2).2).2).1, ((((((((law3Tic).2).2).2).2).2).2).1, (((((((((law3Tic).2).2).2).2).2).2).2).1, ((((((((((law3Tic).2).2).2).2).2).2).2).2).1, (((((((((((law3Tic).2).2).2).2).2).2).2).2).2).1, ((((((((((((law3Tic).2).2).2).2).2).2).2).2).2).2).1, ()))))))))))) (r2.1.1, ((r2.1.2.1.1, (r2.1.2.1.2.1, ())), r2.1.2.2)) (law3Drop (4 : Int))) fun r3 =>
  some ((r3.1, r3.2.1, ()), ())) (Option.bind (movetextText ((law3Tic).1, (((law3Tic).2).1, ((((law3Tic).2).2).1, (((((law3Tic).2).2).2).1, ((((((law3Tic).2).2).2).2).1, (((((((law3Tic).2).2).2).2).2).1, ((((((((law3Tic).2).2).2).2).2).2).1, (((((((((law3Tic).2).2).2).2).2).2).2).1, ((((((((((law3Tic).2).2).2).2).2).2).2).2).1, (((((((((((law3Tic).2).2).2).2).2).2).2).2).2).1, ((((((((((((law3Tic).2).2).2).2).2).2).2).2).2).2).1, ()))))))))))) (r2.1.1, ((r2.1.2.1.1, (r2.1.2.1.2.1, ())), r2.1.2.2)) (law3Drop (4 : Int))) fun r4 =>
  some ((r4.1, r4.2.1, ()), ()))) (Option.bind (movetextText ((law3Tic).1, (((law3Tic).2).1, ((((law3Tic).2).2).1, (((((law3Tic).2).2).2).1, ((((((law3Tic).2).2).2).2).1, (((((((law3Tic).2).2).2).2).2).1, ((((((((law3Tic).2).2).2).2).2).2).1, (((((((((law3Tic).2).2).2).2).2).2).2).1, ((((((((((law3Tic).2).2).2).2).2).2).2).2).1, (((((((((((law3Tic).2).2).2).2).2).2).2).2).2).1, ((((((((((((law3Tic).2).2).2).2).2).2).2).2).2).2).1, ()))))))))))) (r2.1.1, ((r2.1.2.1.1, (r2.1.2.1.2.1, ())), r2.1.2.2)) (law3Drop (4 : Int))) fun r5 =>
  some ((r5.1, r5.2.1, ()), ()))) fun x6 =>
  some (((r2.2.1 == (0 : Int)) && (x6.1.2.1 == (0 : Int))) && (x6.1.1.toList == (ByteArray.mk #[83, 64, 98, 50]).toList))
end Go.Proofs.Ytaaigenpmaiodaa
