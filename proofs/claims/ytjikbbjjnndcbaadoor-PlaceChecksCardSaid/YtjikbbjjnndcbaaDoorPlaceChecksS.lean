/- What functions compute, in plain Lean: PlaceChecks. No condition of its own. -/
import Derived.Test.YtjikbbjjnndcbaaDoorDen0
import Derived.Test.YtjikbbjjnndcbaaDoorCoreS
namespace Go.Proofs.YtjikbbjjnndcbaaDoor
open Go.Den
set_option linter.unusedVariables false
set_option maxRecDepth 100000
noncomputable def placeRow_L1 (cells : List Int) (r : ByteArray × Int × Int × (List (Int × Int × Int × (List (Int × Int × Int × Int × Unit)) × Unit)) × (List Int) × Bool × Bool × (List (Int × Int × Int × Bool × Unit)) × Int × Int × Int × Unit) (x1 : (Int × Unit) × ((ByteArray × Unit) × (Int × Unit) × Unit)) : Option (((Int × Unit) × ((ByteArray × Unit) × (Int × Unit) × Unit)) ⊕ ((Unit) × ((ByteArray × Unit) × (Int × Unit) × Unit))) :=
  bif (decide (x1.1.1 < ((cells.length : Nat) : Int))) then (Option.bind (Option.bind (at? cells x1.1.1) fun d2 =>
  bif (d2 == (0 : Int)) then some ((), (x1.2.1, ((w64 (x1.2.2.1.1 + (1 : Int))), ()), ()))
  else Option.bind (bif (decide (x1.2.2.1.1 > (0 : Int))) then (Option.bind (itoaS x1.2.2.1.1) fun r3 =>
  req (strRoom x1.2.1.1 r3) (some ((), (((x1.2.1.1 ++ r3), ()), ()))))
  else some ((), (x1.2.1, ()))) fun x4 =>
  Option.bind (at? r.2.2.2.1 (w64 ((w64 (d2 - (1 : Int))).tdiv (2 : Int)))) fun d5 =>
  Option.bind (bif ((d2.tmod (2 : Int)) == (0 : Int)) then some (((wu8 (d5.1 + (32 : Int))), ()), ())
  else some ((d5.1, ()), ())) fun x6 =>
  req (strRoom x4.2.1.1 (Go.Utf8.encode (IntKind.wrap .i32 x6.1.1))) (some ((), (((x4.2.1.1 ++ (Go.Utf8.encode (IntKind.wrap .i32 x6.1.1))), ()), ((0 : Int), ()), ())))) fun x7 =>
  some (Sum.inl (((w64 (x1.1.1 + (1 : Int))), ()), (x7.2.1, x7.2.2.1, ()))))
  else some (Sum.inr ((), (x1.2.1, x1.2.2.1, ())))
noncomputable def placeRow (r : ByteArray × Int × Int × (List (Int × Int × Int × (List (Int × Int × Int × Int × Unit)) × Unit)) × (List Int) × Bool × Bool × (List (Int × Int × Int × Bool × Unit)) × Int × Int × Int × Unit) (cells : List Int) : Option (ByteArray) :=
  Option.bind (iterW (placeRow_L1 cells r) (((0 : Int), ()), (((ByteArray.mk #[]), ()), ((0 : Int), ()), ()))) fun x8 =>
  Option.bind (bif (decide (x8.2.2.1.1 > (0 : Int))) then (Option.bind (itoaS x8.2.2.1.1) fun r9 =>
  req (strRoom x8.2.1.1 r9) (some ((), (((x8.2.1.1 ++ r9), ()), ()))))
  else some ((), (x8.2.1, ()))) fun x10 =>
  some x10.2.1.1
noncomputable def placeHand_L1 (l : List Int) (r : ByteArray × Int × Int × (List (Int × Int × Int × (List (Int × Int × Int × Int × Unit)) × Unit)) × (List Int) × Bool × Bool × (List (Int × Int × Int × Bool × Unit)) × Int × Int × Int × Unit) (x1 : (ByteArray × Int × Unit) × (Unit)) : Option (((ByteArray × Int × Unit) × (Unit)) ⊕ ((ByteArray × Unit) × (Unit))) :=
  bif (decide (x1.1.2.1 < ((l.length : Nat) : Int))) then (Option.bind (at? l x1.1.2.1) fun d2 =>
  Option.bind (bif (decide (d2 > (0 : Int))) then (Option.bind (at? r.2.2.2.1 x1.1.2.1) fun d3 =>
  Option.bind (itoaS d2) fun r4 =>
  req (strRoom (Go.Utf8.encode (IntKind.wrap .i32 d3.1)) r4) (req (strRoom x1.1.1 ((Go.Utf8.encode (IntKind.wrap .i32 d3.1)) ++ r4)) (some (((x1.1.1 ++ ((Go.Utf8.encode (IntKind.wrap .i32 d3.1)) ++ r4)), ()), ()))))
  else some ((x1.1.1, ()), ())) fun x5 =>
  some (Sum.inl ((x5.1.1, (w64 (x1.1.2.1 + (1 : Int))), ()), ())))
  else some (Sum.inr ((x1.1.1, ()), ()))
noncomputable def placeHand (r : ByteArray × Int × Int × (List (Int × Int × Int × (List (Int × Int × Int × Int × Unit)) × Unit)) × (List Int) × Bool × Bool × (List (Int × Int × Int × Bool × Unit)) × Int × Int × Int × Unit) (l : List Int) : Option (ByteArray) :=
  Option.bind (iterW (placeHand_L1 l r) (((ByteArray.mk #[]), (0 : Int), ()), ())) fun x6 =>
  bif (x6.1.1.toList == (ByteArray.mk #[]).toList) then some (ByteArray.mk #[45])
  else some x6.1.1
noncomputable def placeText_L1 (r : ByteArray × Int × Int × (List (Int × Int × Int × (List (Int × Int × Int × Int × Unit)) × Unit)) × (List Int) × Bool × Bool × (List (Int × Int × Int × Bool × Unit)) × Int × Int × Int × Unit) (p : (List Int) × ((List Int) × (List Int) × Unit) × Int × Int × Unit) (x6 : ((List ByteArray) × Int × Unit) × (Unit)) : Option ((((List ByteArray) × Int × Unit) × (Unit)) ⊕ (((List ByteArray) × Unit) × (Unit))) :=
  bif (decide (x6.1.2.1 ≥ (0 : Int))) then (req (boundsI (w64 (x6.1.2.1 * r.2.1)) (w64 ((w64 (x6.1.2.1 + (1 : Int))) * r.2.1)) p.1.length) (Option.bind (placeRow r ((p.1.take ((w64 ((w64 (x6.1.2.1 + (1 : Int))) * r.2.1))).toNat).drop ((w64 (x6.1.2.1 * r.2.1))).toNat)) fun r7 =>
  req (room (x6.1.1.length + ([r7]).length) 16) (some (Sum.inl (((x6.1.1 ++ [r7]), (w64 (x6.1.2.1 - (1 : Int))), ()), ())))))
  else some (Sum.inr ((x6.1.1, ()), ()))
noncomputable def placeText (r : ByteArray × Int × Int × (List (Int × Int × Int × (List (Int × Int × Int × Int × Unit)) × Unit)) × (List Int) × Bool × Bool × (List (Int × Int × Int × Bool × Unit)) × Int × Int × Int × Unit) (p : (List Int) × ((List Int) × (List Int) × Unit) × Int × Int × Unit) : Option (ByteArray) :=
  Option.bind (iterW (placeText_L1 r p) ((([] : List ByteArray), (w64 (r.2.2.1 - (1 : Int))), ()), ())) fun x8 =>
  Option.bind (joinS x8.1.1 (ByteArray.mk #[47])) fun r9 =>
  req (strRoom r9 (ByteArray.mk #[32])) (Option.bind (placeHand r p.2.1.1) fun r10 =>
  req (strRoom (r9 ++ (ByteArray.mk #[32])) r10) (req (strRoom ((r9 ++ (ByteArray.mk #[32])) ++ r10) (ByteArray.mk #[32])) (Option.bind (placeHand r p.2.1.2.1) fun r11 =>
  req (strRoom (((r9 ++ (ByteArray.mk #[32])) ++ r10) ++ (ByteArray.mk #[32])) r11) (req (strRoom ((((r9 ++ (ByteArray.mk #[32])) ++ r10) ++ (ByteArray.mk #[32])) ++ r11) (ByteArray.mk #[32])) (Option.bind (itoaS (w64 (p.2.2.1 + (1 : Int)))) fun r12 =>
  req (strRoom (((((r9 ++ (ByteArray.mk #[32])) ++ r10) ++ (ByteArray.mk #[32])) ++ r11) ++ (ByteArray.mk #[32])) r12) (req (strRoom ((((((r9 ++ (ByteArray.mk #[32])) ++ r10) ++ (ByteArray.mk #[32])) ++ r11) ++ (ByteArray.mk #[32])) ++ r12) (ByteArray.mk #[32])) (Option.bind (itoaS p.2.2.2.1) fun r13 =>
  req (strRoom (((((((r9 ++ (ByteArray.mk #[32])) ++ r10) ++ (ByteArray.mk #[32])) ++ r11) ++ (ByteArray.mk #[32])) ++ r12) ++ (ByteArray.mk #[32])) r13) (some ((((((((r9 ++ (ByteArray.mk #[32])) ++ r10) ++ (ByteArray.mk #[32])) ++ r11) ++ (ByteArray.mk #[32])) ++ r12) ++ (ByteArray.mk #[32])) ++ r13)))))))))
noncomputable def placeText_i (r : ByteArray × Int × Int × (List (Int × Int × Int × (List (Int × Int × Int × Int × Unit)) × Unit)) × (List Int) × Bool × Bool × (List (Int × Int × Int × Bool × Unit)) × Int × Int × Int × Unit) (p : (List Int) × ((List Int) × (List Int) × Unit) × Int × Int × Unit) : Option (ByteArray × Int × Unit) :=
  Option.bind (placeCheck r p) fun r3 =>
  bif (r3 != (0 : Int)) then some ((ByteArray.mk #[]), (r3, ()))
  else Option.bind (placeText r p) fun r4 =>
  some (r4, ((0 : Int), ()))
noncomputable def ref1Dec_F (self : (Int × Unit) → Option (ByteArray)) (n : Int) : Option (ByteArray) :=
  bif (decide (n < (0 : Int))) then (Option.bind (self ((w64 (0 - n)), ())) fun r4 =>
  req (strRoom (ByteArray.mk #[45]) r4) (some ((ByteArray.mk #[45]) ++ r4)))
  else bif (decide (n > (9 : Int))) then (Option.bind (self ((w64 (n.tdiv (10 : Int))), ())) fun r5 =>
  Option.bind (self ((n.tmod (10 : Int)), ())) fun r6 =>
  req (strRoom r5 r6) (some (r5 ++ r6)))
  else req (boundsI n (w64 (n + (1 : Int))) (ByteArray.mk #[48, 49, 50, 51, 52, 53, 54, 55, 56, 57]).size) (some ((ByteArray.mk #[48, 49, 50, 51, 52, 53, 54, 55, 56, 57]).extract (n).toNat ((w64 (n + (1 : Int)))).toNat))
noncomputable def ref1Dec_G (self : (Int × Unit) → Option (ByteArray)) (x : Int × Unit) : Option (ByteArray) := ref1Dec_F self x.1
noncomputable def ref1Dec (n : Int) : Option (ByteArray) := fixW ref1Dec_G (n, ())
noncomputable def ref1Letter (r : ByteArray × Int × Int × (List (Int × Int × Int × (List (Int × Int × Int × Int × Unit)) × Unit)) × (List Int) × Bool × Bool × (List (Int × Int × Int × Bool × Unit)) × Int × Int × Int × Unit) (c : Int) : Option (ByteArray) :=
  Option.bind (at? r.2.2.2.1 (w64 ((w64 (c - (1 : Int))).tdiv (2 : Int)))) fun d2 =>
  Option.bind (bif ((c.tmod (2 : Int)) == (0 : Int)) then some (((wu8 (d2.1 + (32 : Int))), ()), ())
  else some ((d2.1, ()), ())) fun x3 =>
  some (strOf ([x3.1.1]))
noncomputable def ref1PlaceText_L2 (r : ByteArray × Int × Int × (List (Int × Int × Int × (List (Int × Int × Int × Int × Unit)) × Unit)) × (List Int) × Bool × Bool × (List (Int × Int × Int × Bool × Unit)) × Int × Int × Int × Unit) (p : (List Int) × ((List Int) × (List Int) × Unit) × Int × Int × Unit) (x3 : (ByteArray × Int × Unit) × (Unit)) (x5 : (ByteArray × Int × Int × Unit) × (Unit)) : Option (((ByteArray × Int × Int × Unit) × (Unit)) ⊕ ((ByteArray × Unit) × (Unit))) :=
  bif (decide (x5.1.2.2.1 < (w64 (r.2.1 + (1 : Int))))) then (Option.bind (Option.bind (bif (decide (x5.1.2.2.1 < r.2.1)) then (Option.bind (at? p.1 (w64 ((w64 (x3.1.2.1 * r.2.1)) + x5.1.2.2.1))) fun d6 =>
  some ((d6, ()), ()))
  else some (((-1 : Int), ()), ())) fun x7 =>
  bif (x7.1.1 == (0 : Int)) then some ((x5.1.1, (w64 (x5.1.2.1 + (1 : Int))), ()), ())
  else Option.bind (bif (decide (x5.1.2.1 > (0 : Int))) then (Option.bind (ref1Dec x5.1.2.1) fun r8 =>
  req (strRoom x5.1.1 r8) (some (((x5.1.1 ++ r8), (0 : Int), ()), ())))
  else some ((x5.1.1, x5.1.2.1, ()), ())) fun x9 =>
  Option.bind (bif (decide (x7.1.1 > (0 : Int))) then (Option.bind (ref1Letter r x7.1.1) fun r10 =>
  req (strRoom x9.1.1 r10) (some (((x9.1.1 ++ r10), ()), ())))
  else some ((x9.1.1, ()), ())) fun x11 =>
  some ((x11.1.1, x9.1.2.1, ()), ())) fun x12 =>
  some (Sum.inl ((x12.1.1, x12.1.2.1, (w64 (x5.1.2.2.1 + (1 : Int))), ()), ())))
  else some (Sum.inr ((x5.1.1, ()), ()))
noncomputable def ref1PlaceText_L1 (r : ByteArray × Int × Int × (List (Int × Int × Int × (List (Int × Int × Int × Int × Unit)) × Unit)) × (List Int) × Bool × Bool × (List (Int × Int × Int × Bool × Unit)) × Int × Int × Int × Unit) (p : (List Int) × ((List Int) × (List Int) × Unit) × Int × Int × Unit) (x3 : (ByteArray × Int × Unit) × (Unit)) : Option (((ByteArray × Int × Unit) × (Unit)) ⊕ ((ByteArray × Unit) × (Unit))) :=
  bif (decide (x3.1.2.1 ≥ (0 : Int))) then (Option.bind (Option.bind (bif (!(x3.1.1.toList == (ByteArray.mk #[]).toList)) then req (strRoom x3.1.1 (ByteArray.mk #[47])) (some (((x3.1.1 ++ (ByteArray.mk #[47])), ()), ()))
  else some ((x3.1.1, ()), ())) fun x4 =>
  Option.bind (iterW (ref1PlaceText_L2 r p x3) ((x4.1.1, (0 : Int), (0 : Int), ()), ())) fun x13 =>
  some ((x13.1.1, ()), ())) fun x14 =>
  some (Sum.inl ((x14.1.1, (w64 (x3.1.2.1 - (1 : Int))), ()), ())))
  else some (Sum.inr ((x3.1.1, ()), ()))
noncomputable def ref1PlaceText_L4 (p : (List Int) × ((List Int) × (List Int) × Unit) × Int × Int × Unit) (x16 : (ByteArray × Int × Unit) × (Unit)) (r : ByteArray × Int × Int × (List (Int × Int × Int × (List (Int × Int × Int × Int × Unit)) × Unit)) × (List Int) × Bool × Bool × (List (Int × Int × Int × Bool × Unit)) × Int × Int × Int × Unit) (x17 : (ByteArray × Int × Unit) × (Unit)) : Option (((ByteArray × Int × Unit) × (Unit)) ⊕ ((ByteArray × Unit) × (Unit))) :=
  bif (decide (x17.1.2.1 < (((getD' [p.2.1.1, p.2.1.2.1] (x16.1.2.1).toNat []).length : Nat) : Int))) then (Option.bind (at? (getD' [p.2.1.1, p.2.1.2.1] (x16.1.2.1).toNat []) x17.1.2.1) fun d18 =>
  Option.bind (bif (decide (d18 > (0 : Int))) then (Option.bind (agree (Option.bind (at? r.2.2.2.1 x17.1.2.1) fun d19 =>
  agree (agree (agree (Option.bind (ref1Dec d18) fun r20 =>
  req (strRoom (strOf ([d19.1])) r20) (req (strRoom x17.1.1 ((strOf ([d19.1])) ++ r20)) (some (((x17.1.1 ++ ((strOf ([d19.1])) ++ r20)), ()), ())))) (Option.bind (ref1Dec d18) fun r21 =>
  req (strRoom (strOf ([d19.1])) r21) (req (strRoom x17.1.1 ((strOf ([d19.1])) ++ r21)) (some (((x17.1.1 ++ ((strOf ([d19.1])) ++ r21)), ()), ()))))) (Option.bind (ref1Dec d18) fun r22 =>
  req (strRoom (strOf ([d19.1])) r22) (req (strRoom x17.1.1 ((strOf ([d19.1])) ++ r22)) (some (((x17.1.1 ++ ((strOf ([d19.1])) ++ r22)), ()), ()))))) (Option.bind (ref1Dec d18) fun r23 =>
  req (strRoom (strOf ([d19.1])) r23) (req (strRoom x17.1.1 ((strOf ([d19.1])) ++ r23)) (some (((x17.1.1 ++ ((strOf ([d19.1])) ++ r23)), ()), ()))))) (Option.bind (ref1Dec d18) fun r24 =>
  Option.bind (at? r.2.2.2.1 x17.1.2.1) fun d25 =>
  req (strRoom (strOf ([d25.1])) r24) (req (strRoom x17.1.1 ((strOf ([d25.1])) ++ r24)) (some (((x17.1.1 ++ ((strOf ([d25.1])) ++ r24)), ()), ()))))) fun x26 =>
  some ((x26.1.1, ()), ()))
  else some ((x17.1.1, ()), ())) fun x27 =>
  some (Sum.inl ((x27.1.1, (w64 (x17.1.2.1 + (1 : Int))), ()), ())))
  else some (Sum.inr ((x17.1.1, ()), ()))
noncomputable def ref1PlaceText_L3 (p : (List Int) × ((List Int) × (List Int) × Unit) × Int × Int × Unit) (r : ByteArray × Int × Int × (List (Int × Int × Int × (List (Int × Int × Int × Int × Unit)) × Unit)) × (List Int) × Bool × Bool × (List (Int × Int × Int × Bool × Unit)) × Int × Int × Int × Unit) (x16 : (ByteArray × Int × Unit) × (Unit)) : Option (((ByteArray × Int × Unit) × (Unit)) ⊕ ((ByteArray × Unit) × (Unit))) :=
  bif (decide (x16.1.2.1 < (2 : Int))) then (Option.bind (req (inb x16.1.2.1 2) (Option.bind (iterW (ref1PlaceText_L4 p x16 r) (((ByteArray.mk #[]), (0 : Int), ()), ())) fun x28 =>
  Option.bind (bif (x28.1.1.toList == (ByteArray.mk #[]).toList) then some (((ByteArray.mk #[45]), ()), ())
  else some ((x28.1.1, ()), ())) fun x29 =>
  req (strRoom (ByteArray.mk #[32]) x29.1.1) (req (strRoom x16.1.1 ((ByteArray.mk #[32]) ++ x29.1.1)) (some (((x16.1.1 ++ ((ByteArray.mk #[32]) ++ x29.1.1)), ()), ()))))) fun x30 =>
  some (Sum.inl ((x30.1.1, (w64 (x16.1.2.1 + (1 : Int))), ()), ())))
  else some (Sum.inr ((x16.1.1, ()), ()))
noncomputable def ref1PlaceText (r : ByteArray × Int × Int × (List (Int × Int × Int × (List (Int × Int × Int × Int × Unit)) × Unit)) × (List Int) × Bool × Bool × (List (Int × Int × Int × Bool × Unit)) × Int × Int × Int × Unit) (p : (List Int) × ((List Int) × (List Int) × Unit) × Int × Int × Unit) : Option (ByteArray) :=
  Option.bind (iterW (ref1PlaceText_L1 r p) (((ByteArray.mk #[]), (w64 (r.2.2.1 - (1 : Int))), ()), ())) fun x15 =>
  Option.bind (iterW (ref1PlaceText_L3 p r) ((x15.1.1, (0 : Int), ()), ())) fun x31 =>
  req (strRoom x31.1.1 (ByteArray.mk #[32])) (Option.bind (ref1Dec (w64 (p.2.2.1 + (1 : Int)))) fun r32 =>
  req (strRoom (x31.1.1 ++ (ByteArray.mk #[32])) r32) (req (strRoom ((x31.1.1 ++ (ByteArray.mk #[32])) ++ r32) (ByteArray.mk #[32])) (Option.bind (ref1Dec p.2.2.2.1) fun r33 =>
  req (strRoom (((x31.1.1 ++ (ByteArray.mk #[32])) ++ r32) ++ (ByteArray.mk #[32])) r33) (some ((((x31.1.1 ++ (ByteArray.mk #[32])) ++ r32) ++ (ByteArray.mk #[32])) ++ r33)))))
noncomputable def law1PlaceChecks (r : ByteArray × Int × Int × (List (Int × Int × Int × (List (Int × Int × Int × Int × Unit)) × Unit)) × (List Int) × Bool × Bool × (List (Int × Int × Int × Bool × Unit)) × Int × Int × Int × Unit) (p : (List Int) × ((List Int) × (List Int) × Unit) × Int × Int × Unit) : Option (Bool) :=
  Option.bind (placeBegin ((law1Three).1, (((law1Three).2).1, ((((law1Three).2).2).1, (((((law1Three).2).2).2).1, ((((((law1Three).2).2).2).2).1, (((((((law1Three).2).2).2).2).2).1, ((((((((law1Three).2).2).2).2).2).2).1, (((((((((law1Three).2).2).2).2).2).2).2).1, ((((((((((law1Three).2).2).2).2).2).2).2).2).1, (((((((((((law1Three).2).2).2).2).2).2).2).2).2).1, ((((((((((((law1Three).2).2).2).2).2).2).2).2).2).2).1, ())))))))))))) fun r8 =>
  Option.bind (agree (Option.bind (placeText_i ((law1Three).1, (((law1Three).2).1, ((((law1Three).2).2).1, (((((law1Three).2).2).2).1, ((((((law1Three).2).2).2).2).1, (((((((law1Three).2).2).2).2).2).1, ((((((((law1Three).2).2).2).2).2).2).1, (((((((((law1Three).2).2).2).2).2).2).2).1, ((((((((((law1Three).2).2).2).2).2).2).2).2).1, (((((((((((law1Three).2).2).2).2).2).2).2).2).2).1, ((((((((((((law1Three).2).2).2).2).2).2).2).2).2).2).1, ()))))))))))) (r8.1.1, ((r8.1.2.1.1, (r8.1.2.1.2.1, ())), r8.1.2.2))) fun r9 =>
  some ((r9.1, r9.2.1, ()), ())) (Option.bind (placeText_i ((law1Three).1, (((law1Three).2).1, ((((law1Three).2).2).1, (((((law1Three).2).2).2).1, ((((((law1Three).2).2).2).2).1, (((((((law1Three).2).2).2).2).2).1, ((((((((law1Three).2).2).2).2).2).2).1, (((((((((law1Three).2).2).2).2).2).2).2).1, ((((((((((law1Three).2).2).2).2).2).2).2).2).1, (((((((((((law1Three).2).2).2).2).2).2).2).2).2).1, ((((((((((((law1Three).2).2).2).2).2).2).2).2).2).2).1, ()))))))))))) (r8.1.1, ((r8.1.2.1.1, (r8.1.2.1.2.1, ())), r8.1.2.2))) fun r10 =>
  some ((r10.1, r10.2.1, ()), ()))) fun x11 =>
  Option.bind (bif (((r8.2.1 != (0 : Int)) || (x11.1.2.1 != (0 : Int))) || (!(x11.1.1.toList == (ByteArray.mk #[51, 47, 51, 47, 51, 32, 65, 53, 32, 65, 53, 32, 49, 32, 48]).toList))) then some ((true, ()), ())
  else Option.bind (placeCheck ((law1Three).1, (((law1Three).2).1, ((((law1Three).2).2).1, (((((law1Three).2).2).2).1, ((((((law1Three).2).2).2).2).1, (((((((law1Three).2).2).2).2).2).1, ((((((((law1Three).2).2).2).2).2).2).1, (((((((((law1Three).2).2).2).2).2).2).2).1, ((((((((((law1Three).2).2).2).2).2).2).2).2).1, (((((((((((law1Three).2).2).2).2).2).2).2).2).2).1, ((((((((((((law1Three).2).2).2).2).2).2).2).2).2).2).1, ()))))))))))) (([] : List Int), ((([] : List Int), (([] : List Int), ())), ((0 : Int), ((0 : Int), ()))))) fun r12 =>
  some (((r12 != (3 : Int)), ()), ())) fun x13 =>
  bif x13.1.1 then some false
  else Option.bind (ref1PlaceError r p) fun r14 =>
  Option.bind (placeText_i r p) fun r15 =>
  Option.bind (placeCheck r p) fun r16 =>
  bif ((r16 != r14) || (r15.2.1 != r14)) then some false
  else Option.bind (gopt (r14 == (0 : Int)) ByteArray.empty (ref1PlaceText r p)) fun r17 =>
  bif (((r14 == (0 : Int)) && (!(r15.1.toList == r17.toList))) || ((r14 != (0 : Int)) && (!(r15.1.toList == (ByteArray.mk #[]).toList)))) then some false
  else Option.bind (placeBegin r) fun r18 =>
  Option.bind (ref1RulesError r) fun r19 =>
  bif (r19 != (0 : Int)) then some ((r18.2.1 == r19) && (((r18.1.1.length : Nat) : Int) == (0 : Int)))
  else Option.bind (bif (r18.2.1 == (0 : Int)) then (agree (Option.bind (ref1Begin r) fun r20 =>
  Option.bind (ref1SamePlace (r18.1.1, ((r18.1.2.1.1, (r18.1.2.1.2.1, ())), r18.1.2.2)) (r20.1, ((r20.2.1.1, (r20.2.1.2.1, ())), r20.2.2))) fun r21 =>
  some ((r21, ()), ())) (Option.bind (ref1Begin r) fun r22 =>
  Option.bind (ref1SamePlace (r18.1.1, ((r18.1.2.1.1, (r18.1.2.1.2.1, ())), r18.1.2.2)) (r22.1, ((r22.2.1.1, (r22.2.1.2.1, ())), r22.2.2))) fun r23 =>
  some ((r23, ()), ())))
  else agree (some ((false, ()), ())) (some ((false, ()), ()))) fun x24 =>
  some x24.1.1
end Go.Proofs.YtjikbbjjnndcbaaDoor
