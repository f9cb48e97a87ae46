/- What functions compute, in plain Lean: RuletextPrints. No condition of its own. -/
import Derived.Test.YtjikbbjjnndcbaaDoorDen0
import Derived.Test.YtjikbbjjnndcbaaDoorCoreS
namespace Go.Proofs.YtjikbbjjnndcbaaDoor
open Go.Den
set_option linter.unusedVariables false
set_option maxRecDepth 100000
noncomputable def ruletextLetter (r : ByteArray × Int × Int × (List (Int × Int × Int × (List (Int × Int × Int × Int × Unit)) × Unit)) × (List Int) × Bool × Bool × (List (Int × Int × Int × Bool × Unit)) × Int × Int × Int × Unit) (n : Int) : Option (ByteArray) :=
  bif (n == (0 : Int)) then some (ByteArray.mk #[45])
  else Option.bind (at? r.2.2.2.1 (w64 (n - (1 : Int)))) fun d2 =>
  some (Go.Utf8.encode (IntKind.wrap .i32 d2.1))
noncomputable def ruletextTakes_o : Option (ByteArray × ByteArray × ByteArray × Unit) :=
  some ((ByteArray.mk #[110, 101, 118, 101, 114]), ((ByteArray.mk #[109, 97, 121]), ((ByteArray.mk #[109, 117, 115, 116]), ())))
def ruletextTakes : ByteArray × ByteArray × ByteArray × Unit :=
  ((ByteArray.mk #[110, 101, 118, 101, 114]), ((ByteArray.mk #[109, 97, 121]), ((ByteArray.mk #[109, 117, 115, 116]), ())))
theorem ruletextTakes_eq : ruletextTakes_o = some (ruletextTakes) := by
  unfold ruletextTakes_o ruletextTakes
  first | rfl | simp only [cond_some]
noncomputable def ruletextCell (r : ByteArray × Int × Int × (List (Int × Int × Int × (List (Int × Int × Int × Int × Unit)) × Unit)) × (List Int) × Bool × Bool × (List (Int × Int × Int × Bool × Unit)) × Int × Int × Int × Unit) (c : Int) : Option (Int) :=
  bif (c == (0 : Int)) then some (46 : Int)
  else Option.bind (at? r.2.2.2.1 (w64 ((w64 (c - (1 : Int))).tdiv (2 : Int)))) fun d2 =>
  Option.bind (bif (((w64 (c - (1 : Int))).tmod (2 : Int)) == (1 : Int)) then some (((wu8 (d2.1 + (32 : Int))), ()), ())
  else some ((d2.1, ()), ())) fun x3 =>
  some x3.1.1
noncomputable def ruletextEnd (r : ByteArray × Int × Int × (List (Int × Int × Int × (List (Int × Int × Int × Int × Unit)) × Unit)) × (List Int) × Bool × Bool × (List (Int × Int × Int × Bool × Unit)) × Int × Int × Int × Unit) (x : Int × Int × Int × Bool × Unit) : Option (ByteArray) :=
  Option.bind (bif x.2.2.2.1 then some (((ByteArray.mk #[32, 108, 111, 115, 101, 115]), ()), ())
  else some (((ByteArray.mk #[32, 119, 105, 110, 115]), ()), ())) fun x5 =>
  bif (x.1 == (0 : Int)) then (Option.bind (itoaS x.2.2.1) fun r6 =>
  req (strRoom (ByteArray.mk #[101, 110, 100, 32, 108, 105, 110, 101, 32]) r6) (req (strRoom ((ByteArray.mk #[101, 110, 100, 32, 108, 105, 110, 101, 32]) ++ r6) x5.1.1) (some (((ByteArray.mk #[101, 110, 100, 32, 108, 105, 110, 101, 32]) ++ r6) ++ x5.1.1))))
  else bif (x.1 == (1 : Int)) then (Option.bind (ruletextLetter r (w64 (x.2.1 + (1 : Int)))) fun r7 =>
  req (strRoom (ByteArray.mk #[101, 110, 100, 32, 114, 101, 97, 99, 104, 32]) r7) (req (strRoom ((ByteArray.mk #[101, 110, 100, 32, 114, 101, 97, 99, 104, 32]) ++ r7) x5.1.1) (some (((ByteArray.mk #[101, 110, 100, 32, 114, 101, 97, 99, 104, 32]) ++ r7) ++ x5.1.1))))
  else Option.bind (ruletextLetter r (w64 (x.2.1 + (1 : Int)))) fun r8 =>
  req (strRoom (ByteArray.mk #[101, 110, 100, 32, 116, 97, 107, 101, 32]) r8) (req (strRoom ((ByteArray.mk #[101, 110, 100, 32, 116, 97, 107, 101, 32]) ++ r8) (ByteArray.mk #[32])) (Option.bind (itoaS x.2.2.1) fun r9 =>
  req (strRoom (((ByteArray.mk #[101, 110, 100, 32, 116, 97, 107, 101, 32]) ++ r8) ++ (ByteArray.mk #[32])) r9) (req (strRoom ((((ByteArray.mk #[101, 110, 100, 32, 116, 97, 107, 101, 32]) ++ r8) ++ (ByteArray.mk #[32])) ++ r9) x5.1.1) (some (((((ByteArray.mk #[101, 110, 100, 32, 116, 97, 107, 101, 32]) ++ r8) ++ (ByteArray.mk #[32])) ++ r9) ++ x5.1.1)))))
noncomputable def ruletextBlocks_o : Option (ByteArray × ByteArray × ByteArray × Unit) :=
  some ((ByteArray.mk #[108, 111, 115, 101, 115]), ((ByteArray.mk #[119, 105, 110, 115]), ((ByteArray.mk #[100, 114, 97, 119, 115]), ())))
def ruletextBlocks : ByteArray × ByteArray × ByteArray × Unit :=
  ((ByteArray.mk #[108, 111, 115, 101, 115]), ((ByteArray.mk #[119, 105, 110, 115]), ((ByteArray.mk #[100, 114, 97, 119, 115]), ())))
theorem ruletextBlocks_eq : ruletextBlocks_o = some (ruletextBlocks) := by
  unfold ruletextBlocks_o ruletextBlocks
  first | rfl | simp only [cond_some]
noncomputable def ruletextPrint_L2 (d11 : Int × Int × Int × (List (Int × Int × Int × Int × Unit)) × Unit) (x15 : ((List ByteArray) × Int × Unit) × (Unit)) : Option ((((List ByteArray) × Int × Unit) × (Unit)) ⊕ (((List ByteArray) × Unit) × (Unit))) :=
  bif (decide (x15.1.2.1 < ((d11.2.2.2.1.length : Nat) : Int))) then (Option.bind (at? d11.2.2.2.1 x15.1.2.1) fun d16 =>
  Option.bind (itoaS d16.1) fun r17 =>
  req (strRoom (ByteArray.mk #[119, 97, 121, 32]) r17) (req (strRoom ((ByteArray.mk #[119, 97, 121, 32]) ++ r17) (ByteArray.mk #[32])) (Option.bind (itoaS d16.2.1) fun r18 =>
  req (strRoom (((ByteArray.mk #[119, 97, 121, 32]) ++ r17) ++ (ByteArray.mk #[32])) r18) (req (strRoom ((((ByteArray.mk #[119, 97, 121, 32]) ++ r17) ++ (ByteArray.mk #[32])) ++ r18) (ByteArray.mk #[32])) (Option.bind (itoaS d16.2.2.1) fun r19 =>
  req (strRoom (((((ByteArray.mk #[119, 97, 121, 32]) ++ r17) ++ (ByteArray.mk #[32])) ++ r18) ++ (ByteArray.mk #[32])) r19) (req (strRoom ((((((ByteArray.mk #[119, 97, 121, 32]) ++ r17) ++ (ByteArray.mk #[32])) ++ r18) ++ (ByteArray.mk #[32])) ++ r19) (ByteArray.mk #[32])) (req (inb d16.2.2.2.1 3) (req (strRoom (((((((ByteArray.mk #[119, 97, 121, 32]) ++ r17) ++ (ByteArray.mk #[32])) ++ r18) ++ (ByteArray.mk #[32])) ++ r19) ++ (ByteArray.mk #[32])) (getD' [(ruletextTakes).1, ((ruletextTakes).2).1, (((ruletextTakes).2).2).1] (d16.2.2.2.1).toNat ByteArray.empty)) (req (room (x15.1.1.length + ([((((((((ByteArray.mk #[119, 97, 121, 32]) ++ r17) ++ (ByteArray.mk #[32])) ++ r18) ++ (ByteArray.mk #[32])) ++ r19) ++ (ByteArray.mk #[32])) ++ (getD' [(ruletextTakes).1, ((ruletextTakes).2).1, (((ruletextTakes).2).2).1] (d16.2.2.2.1).toNat ByteArray.empty))]).length) 16) (some (Sum.inl (((x15.1.1 ++ [((((((((ByteArray.mk #[119, 97, 121, 32]) ++ r17) ++ (ByteArray.mk #[32])) ++ r18) ++ (ByteArray.mk #[32])) ++ r19) ++ (ByteArray.mk #[32])) ++ (getD' [(ruletextTakes).1, ((ruletextTakes).2).1, (((ruletextTakes).2).2).1] (d16.2.2.2.1).toNat ByteArray.empty))]), (w64 (x15.1.2.1 + (1 : Int))), ()), ()))))))))))))
  else some (Sum.inr ((x15.1.1, ()), ()))
noncomputable def ruletextPrint_L1 (r : ByteArray × Int × Int × (List (Int × Int × Int × (List (Int × Int × Int × Int × Unit)) × Unit)) × (List Int) × Bool × Bool × (List (Int × Int × Int × Bool × Unit)) × Int × Int × Int × Unit) (x10 : ((List ByteArray) × Int × Unit) × (Unit)) : Option ((((List ByteArray) × Int × Unit) × (Unit)) ⊕ (((List ByteArray) × Unit) × (Unit))) :=
  bif (decide (x10.1.2.1 < ((r.2.2.2.1.length : Nat) : Int))) then (Option.bind (Option.bind (at? r.2.2.2.1 x10.1.2.1) fun d11 =>
  Option.bind (ruletextLetter r (w64 (x10.1.2.1 + (1 : Int)))) fun r12 =>
  req (strRoom (ByteArray.mk #[112, 105, 101, 99, 101, 32]) r12) (req (strRoom ((ByteArray.mk #[112, 105, 101, 99, 101, 32]) ++ r12) (ByteArray.mk #[32])) (Option.bind (itoaS d11.2.1) fun r13 =>
  req (strRoom (((ByteArray.mk #[112, 105, 101, 99, 101, 32]) ++ r12) ++ (ByteArray.mk #[32])) r13) (req (strRoom ((((ByteArray.mk #[112, 105, 101, 99, 101, 32]) ++ r12) ++ (ByteArray.mk #[32])) ++ r13) (ByteArray.mk #[32])) (Option.bind (ruletextLetter r d11.2.2.1) fun r14 =>
  req (strRoom (((((ByteArray.mk #[112, 105, 101, 99, 101, 32]) ++ r12) ++ (ByteArray.mk #[32])) ++ r13) ++ (ByteArray.mk #[32])) r14) (req (room (x10.1.1.length + ([((((((ByteArray.mk #[112, 105, 101, 99, 101, 32]) ++ r12) ++ (ByteArray.mk #[32])) ++ r13) ++ (ByteArray.mk #[32])) ++ r14)]).length) 16) (Option.bind (iterW (ruletextPrint_L2 d11) (((x10.1.1 ++ [((((((ByteArray.mk #[112, 105, 101, 99, 101, 32]) ++ r12) ++ (ByteArray.mk #[32])) ++ r13) ++ (ByteArray.mk #[32])) ++ r14)]), (0 : Int), ()), ())) fun x20 =>
  some ((x20.1.1, ()), ())))))))) fun x21 =>
  some (Sum.inl ((x21.1.1, (w64 (x10.1.2.1 + (1 : Int))), ()), ())))
  else some (Sum.inr ((x10.1.1, ()), ()))
noncomputable def ruletextPrint_L4 (r : ByteArray × Int × Int × (List (Int × Int × Int × (List (Int × Int × Int × Int × Unit)) × Unit)) × (List Int) × Bool × Bool × (List (Int × Int × Int × Bool × Unit)) × Int × Int × Int × Unit) (x23 : ((List ByteArray) × Int × Unit) × (Unit)) (x24 : ((List Int) × Int × Unit) × (Unit)) : Option ((((List Int) × Int × Unit) × (Unit)) ⊕ (((List Int) × Unit) × (Unit))) :=
  bif (decide (x24.1.2.1 < r.2.1)) then (Option.bind (at? r.2.2.2.2.1 (w64 ((w64 (x23.1.2.1 * r.2.1)) + x24.1.2.1))) fun d25 =>
  Option.bind (ruletextCell r d25) fun r26 =>
  req (room (x24.1.1.length + ([r26]).length) 1) (some (Sum.inl (((x24.1.1 ++ [r26]), (w64 (x24.1.2.1 + (1 : Int))), ()), ()))))
  else some (Sum.inr ((x24.1.1, ()), ()))
noncomputable def ruletextPrint_L3 (r : ByteArray × Int × Int × (List (Int × Int × Int × (List (Int × Int × Int × Int × Unit)) × Unit)) × (List Int) × Bool × Bool × (List (Int × Int × Int × Bool × Unit)) × Int × Int × Int × Unit) (x23 : ((List ByteArray) × Int × Unit) × (Unit)) : Option ((((List ByteArray) × Int × Unit) × (Unit)) ⊕ (((List ByteArray) × Unit) × (Unit))) :=
  bif (decide (x23.1.2.1 ≥ (0 : Int))) then (Option.bind (req (Nat.blt 0 ([(114 : Int), (111 : Int), (119 : Int), (32 : Int)]).length) (Option.bind (iterW (ruletextPrint_L4 r x23) (([(114 : Int), (111 : Int), (119 : Int), (32 : Int)], (0 : Int), ()), ())) fun x27 =>
  req (room (x23.1.1.length + ([(strOf x27.1.1)]).length) 16) (some (((x23.1.1 ++ [(strOf x27.1.1)]), ()), ())))) fun x28 =>
  some (Sum.inl ((x28.1.1, (w64 (x23.1.2.1 - (1 : Int))), ()), ())))
  else some (Sum.inr ((x23.1.1, ()), ()))
noncomputable def ruletextPrint_L5 (r : ByteArray × Int × Int × (List (Int × Int × Int × (List (Int × Int × Int × Int × Unit)) × Unit)) × (List Int) × Bool × Bool × (List (Int × Int × Int × Bool × Unit)) × Int × Int × Int × Unit) (x32 : ((List ByteArray) × Int × Unit) × (Unit)) : Option ((((List ByteArray) × Int × Unit) × (Unit)) ⊕ (((List ByteArray) × Unit) × (Unit))) :=
  bif (decide (x32.1.2.1 < ((r.2.2.2.2.2.2.2.1.length : Nat) : Int))) then (Option.bind (at? r.2.2.2.2.2.2.2.1 x32.1.2.1) fun d33 =>
  Option.bind (ruletextEnd r d33) fun r34 =>
  req (room (x32.1.1.length + ([r34]).length) 16) (some (Sum.inl (((x32.1.1 ++ [r34]), (w64 (x32.1.2.1 + (1 : Int))), ()), ()))))
  else some (Sum.inr ((x32.1.1, ()), ()))
noncomputable def ruletextPrint (r : ByteArray × Int × Int × (List (Int × Int × Int × (List (Int × Int × Int × Int × Unit)) × Unit)) × (List Int) × Bool × Bool × (List (Int × Int × Int × Bool × Unit)) × Int × Int × Int × Unit) : Option (ByteArray × Int × Unit) :=
  Option.bind (rulesCheck r) fun r7 =>
  bif (r7 != (0 : Int)) then some ((ByteArray.mk #[]), (r7, ()))
  else req (strRoom (ByteArray.mk #[103, 97, 109, 101, 32]) r.1) (req (strRoom ((ByteArray.mk #[103, 97, 109, 101, 32]) ++ r.1) (ByteArray.mk #[32])) (Option.bind (itoaS r.2.1) fun r8 =>
  req (strRoom (((ByteArray.mk #[103, 97, 109, 101, 32]) ++ r.1) ++ (ByteArray.mk #[32])) r8) (req (strRoom ((((ByteArray.mk #[103, 97, 109, 101, 32]) ++ r.1) ++ (ByteArray.mk #[32])) ++ r8) (ByteArray.mk #[32])) (Option.bind (itoaS r.2.2.1) fun r9 =>
  req (strRoom (((((ByteArray.mk #[103, 97, 109, 101, 32]) ++ r.1) ++ (ByteArray.mk #[32])) ++ r8) ++ (ByteArray.mk #[32])) r9) (Option.bind (iterW (ruletextPrint_L1 r) (([((((((ByteArray.mk #[103, 97, 109, 101, 32]) ++ r.1) ++ (ByteArray.mk #[32])) ++ r8) ++ (ByteArray.mk #[32])) ++ r9)], (0 : Int), ()), ())) fun x22 =>
  Option.bind (iterW (ruletextPrint_L3 r) ((x22.1.1, (w64 (r.2.2.1 - (1 : Int))), ()), ())) fun x29 =>
  Option.bind (bif r.2.2.2.2.2.1 then req (room (x29.1.1.length + ([(ByteArray.mk #[102, 97, 108, 108, 115])]).length) 16) (some (((x29.1.1 ++ [(ByteArray.mk #[102, 97, 108, 108, 115])]), ()), ()))
  else some ((x29.1.1, ()), ())) fun x30 =>
  Option.bind (bif r.2.2.2.2.2.2.1 then req (room (x30.1.1.length + ([(ByteArray.mk #[107, 101, 101, 112, 115])]).length) 16) (some (((x30.1.1 ++ [(ByteArray.mk #[107, 101, 101, 112, 115])]), ()), ()))
  else some ((x30.1.1, ()), ())) fun x31 =>
  Option.bind (iterW (ruletextPrint_L5 r) ((x31.1.1, (0 : Int), ()), ())) fun x35 =>
  req (inb r.2.2.2.2.2.2.2.2.1 3) (req (strRoom (ByteArray.mk #[98, 108, 111, 99, 107, 101, 100, 32]) (getD' [(ruletextBlocks).1, ((ruletextBlocks).2).1, (((ruletextBlocks).2).2).1] (r.2.2.2.2.2.2.2.2.1).toNat ByteArray.empty)) (Option.bind (itoaS r.2.2.2.2.2.2.2.2.2.1) fun r36 =>
  req (strRoom (ByteArray.mk #[113, 117, 105, 101, 116, 32]) r36) (Option.bind (itoaS r.2.2.2.2.2.2.2.2.2.2.1) fun r37 =>
  req (strRoom (ByteArray.mk #[114, 101, 112, 101, 97, 116, 32]) r37) (req (room (x35.1.1.length + ([((ByteArray.mk #[98, 108, 111, 99, 107, 101, 100, 32]) ++ (getD' [(ruletextBlocks).1, ((ruletextBlocks).2).1, (((ruletextBlocks).2).2).1] (r.2.2.2.2.2.2.2.2.1).toNat ByteArray.empty)), ((ByteArray.mk #[113, 117, 105, 101, 116, 32]) ++ r36), ((ByteArray.mk #[114, 101, 112, 101, 97, 116, 32]) ++ r37)]).length) 16) (Option.bind (joinS (x35.1.1 ++ [((ByteArray.mk #[98, 108, 111, 99, 107, 101, 100, 32]) ++ (getD' [(ruletextBlocks).1, ((ruletextBlocks).2).1, (((ruletextBlocks).2).2).1] (r.2.2.2.2.2.2.2.2.1).toNat ByteArray.empty)), ((ByteArray.mk #[113, 117, 105, 101, 116, 32]) ++ r36), ((ByteArray.mk #[114, 101, 112, 101, 97, 116, 32]) ++ r37)]) (ByteArray.mk #[10])) fun r38 =>
  req (strRoom r38 (ByteArray.mk #[10])) (some ((r38 ++ (ByteArray.mk #[10])), ((0 : Int), ())))))))))))))
noncomputable def ref1Letter (r : ByteArray × Int × Int × (List (Int × Int × Int × (List (Int × Int × Int × Int × Unit)) × Unit)) × (List Int) × Bool × Bool × (List (Int × Int × Int × Bool × Unit)) × Int × Int × Int × Unit) (c : Int) : Option (ByteArray) :=
  Option.bind (at? r.2.2.2.1 (w64 ((w64 (c - (1 : Int))).tdiv (2 : Int)))) fun d2 =>
  Option.bind (bif ((c.tmod (2 : Int)) == (0 : Int)) then some (((wu8 (d2.1 + (32 : Int))), ()), ())
  else some ((d2.1, ()), ())) fun x3 =>
  some (strOf ([x3.1.1]))
noncomputable def ref1RulesText_L2 (d8 : Int × Int × Int × (List (Int × Int × Int × Int × Unit)) × Unit) (x12 : (ByteArray × Int × Unit) × (Unit)) : Option (((ByteArray × Int × Unit) × (Unit)) ⊕ ((ByteArray × Unit) × (Unit))) :=
  bif (decide (x12.1.2.1 < ((d8.2.2.2.1.length : Nat) : Int))) then (Option.bind (at? d8.2.2.2.1 x12.1.2.1) fun d13 =>
  Option.bind (ref1Dec d13.1) fun r14 =>
  req (strRoom (ByteArray.mk #[119, 97, 121, 32]) r14) (req (strRoom ((ByteArray.mk #[119, 97, 121, 32]) ++ r14) (ByteArray.mk #[32])) (Option.bind (ref1Dec d13.2.1) fun r15 =>
  req (strRoom (((ByteArray.mk #[119, 97, 121, 32]) ++ r14) ++ (ByteArray.mk #[32])) r15) (req (strRoom ((((ByteArray.mk #[119, 97, 121, 32]) ++ r14) ++ (ByteArray.mk #[32])) ++ r15) (ByteArray.mk #[32])) (Option.bind (ref1Dec d13.2.2.1) fun r16 =>
  req (strRoom (((((ByteArray.mk #[119, 97, 121, 32]) ++ r14) ++ (ByteArray.mk #[32])) ++ r15) ++ (ByteArray.mk #[32])) r16) (req (strRoom ((((((ByteArray.mk #[119, 97, 121, 32]) ++ r14) ++ (ByteArray.mk #[32])) ++ r15) ++ (ByteArray.mk #[32])) ++ r16) (ByteArray.mk #[32])) (req (inb d13.2.2.2.1 ([(ByteArray.mk #[110, 101, 118, 101, 114]), (ByteArray.mk #[109, 97, 121]), (ByteArray.mk #[109, 117, 115, 116])]).length) (req (strRoom (((((((ByteArray.mk #[119, 97, 121, 32]) ++ r14) ++ (ByteArray.mk #[32])) ++ r15) ++ (ByteArray.mk #[32])) ++ r16) ++ (ByteArray.mk #[32])) (getD' ([(ByteArray.mk #[110, 101, 118, 101, 114]), (ByteArray.mk #[109, 97, 121]), (ByteArray.mk #[109, 117, 115, 116])]) ((d13.2.2.2.1).toNat) ByteArray.empty)) (req (strRoom ((((((((ByteArray.mk #[119, 97, 121, 32]) ++ r14) ++ (ByteArray.mk #[32])) ++ r15) ++ (ByteArray.mk #[32])) ++ r16) ++ (ByteArray.mk #[32])) ++ (getD' ([(ByteArray.mk #[110, 101, 118, 101, 114]), (ByteArray.mk #[109, 97, 121]), (ByteArray.mk #[109, 117, 115, 116])]) ((d13.2.2.2.1).toNat) ByteArray.empty)) (ByteArray.mk #[10])) (req (strRoom x12.1.1 (((((((((ByteArray.mk #[119, 97, 121, 32]) ++ r14) ++ (ByteArray.mk #[32])) ++ r15) ++ (ByteArray.mk #[32])) ++ r16) ++ (ByteArray.mk #[32])) ++ (getD' ([(ByteArray.mk #[110, 101, 118, 101, 114]), (ByteArray.mk #[109, 97, 121]), (ByteArray.mk #[109, 117, 115, 116])]) ((d13.2.2.2.1).toNat) ByteArray.empty)) ++ (ByteArray.mk #[10]))) (some (Sum.inl (((x12.1.1 ++ (((((((((ByteArray.mk #[119, 97, 121, 32]) ++ r14) ++ (ByteArray.mk #[32])) ++ r15) ++ (ByteArray.mk #[32])) ++ r16) ++ (ByteArray.mk #[32])) ++ (getD' ([(ByteArray.mk #[110, 101, 118, 101, 114]), (ByteArray.mk #[109, 97, 121]), (ByteArray.mk #[109, 117, 115, 116])]) ((d13.2.2.2.1).toNat) ByteArray.empty)) ++ (ByteArray.mk #[10]))), (w64 (x12.1.2.1 + (1 : Int))), ()), ())))))))))))))
  else some (Sum.inr ((x12.1.1, ()), ()))
noncomputable def ref1RulesText_L1 (r : ByteArray × Int × Int × (List (Int × Int × Int × (List (Int × Int × Int × Int × Unit)) × Unit)) × (List Int) × Bool × Bool × (List (Int × Int × Int × Bool × Unit)) × Int × Int × Int × Unit) (x7 : (ByteArray × Int × Unit) × (Unit)) : Option (((ByteArray × Int × Unit) × (Unit)) ⊕ ((ByteArray × Unit) × (Unit))) :=
  bif (decide (x7.1.2.1 < ((r.2.2.2.1.length : Nat) : Int))) then (Option.bind (Option.bind (at? r.2.2.2.1 x7.1.2.1) fun d8 =>
  Option.bind (ref1Dec d8.2.1) fun r9 =>
  req (strRoom (ByteArray.mk #[112, 105, 101, 99, 101, 32]) (strOf ([d8.1]))) (req (strRoom ((ByteArray.mk #[112, 105, 101, 99, 101, 32]) ++ (strOf ([d8.1]))) (ByteArray.mk #[32])) (req (strRoom (((ByteArray.mk #[112, 105, 101, 99, 101, 32]) ++ (strOf ([d8.1]))) ++ (ByteArray.mk #[32])) r9) (req (strRoom ((((ByteArray.mk #[112, 105, 101, 99, 101, 32]) ++ (strOf ([d8.1]))) ++ (ByteArray.mk #[32])) ++ r9) (ByteArray.mk #[32])) (req (strRoom x7.1.1 (((((ByteArray.mk #[112, 105, 101, 99, 101, 32]) ++ (strOf ([d8.1]))) ++ (ByteArray.mk #[32])) ++ r9) ++ (ByteArray.mk #[32]))) (Option.bind (bif (d8.2.2.1 == (0 : Int)) then req (strRoom (x7.1.1 ++ (((((ByteArray.mk #[112, 105, 101, 99, 101, 32]) ++ (strOf ([d8.1]))) ++ (ByteArray.mk #[32])) ++ r9) ++ (ByteArray.mk #[32]))) (ByteArray.mk #[45, 10])) (some ((((x7.1.1 ++ (((((ByteArray.mk #[112, 105, 101, 99, 101, 32]) ++ (strOf ([d8.1]))) ++ (ByteArray.mk #[32])) ++ r9) ++ (ByteArray.mk #[32]))) ++ (ByteArray.mk #[45, 10])), ()), ()))
  else Option.bind (at? r.2.2.2.1 (w64 (d8.2.2.1 - (1 : Int)))) fun d10 =>
  req (strRoom (strOf ([d10.1])) (ByteArray.mk #[10])) (req (strRoom (x7.1.1 ++ (((((ByteArray.mk #[112, 105, 101, 99, 101, 32]) ++ (strOf ([d8.1]))) ++ (ByteArray.mk #[32])) ++ r9) ++ (ByteArray.mk #[32]))) ((strOf ([d10.1])) ++ (ByteArray.mk #[10]))) (some ((((x7.1.1 ++ (((((ByteArray.mk #[112, 105, 101, 99, 101, 32]) ++ (strOf ([d8.1]))) ++ (ByteArray.mk #[32])) ++ r9) ++ (ByteArray.mk #[32]))) ++ ((strOf ([d10.1])) ++ (ByteArray.mk #[10]))), ()), ())))) fun x11 =>
  Option.bind (iterW (ref1RulesText_L2 d8) ((x11.1.1, (0 : Int), ()), ())) fun x17 =>
  some ((x17.1.1, ()), ()))))))) fun x18 =>
  some (Sum.inl ((x18.1.1, (w64 (x7.1.2.1 + (1 : Int))), ()), ())))
  else some (Sum.inr ((x7.1.1, ()), ()))
noncomputable def ref1RulesText_L4 (r : ByteArray × Int × Int × (List (Int × Int × Int × (List (Int × Int × Int × Int × Unit)) × Unit)) × (List Int) × Bool × Bool × (List (Int × Int × Int × Bool × Unit)) × Int × Int × Int × Unit) (x20 : (ByteArray × Int × Unit) × (Unit)) (x21 : (ByteArray × Int × Unit) × (Unit)) : Option (((ByteArray × Int × Unit) × (Unit)) ⊕ ((ByteArray × Unit) × (Unit))) :=
  bif (decide (x21.1.2.1 < r.2.1)) then (Option.bind (at? r.2.2.2.2.1 (w64 ((w64 (x20.1.2.1 * r.2.1)) + x21.1.2.1))) fun d22 =>
  Option.bind (bif (d22 == (0 : Int)) then req (strRoom x21.1.1 (ByteArray.mk #[46])) (some (((x21.1.1 ++ (ByteArray.mk #[46])), ()), ()))
  else Option.bind (ref1Letter r d22) fun r23 =>
  req (strRoom x21.1.1 r23) (some (((x21.1.1 ++ r23), ()), ()))) fun x24 =>
  some (Sum.inl ((x24.1.1, (w64 (x21.1.2.1 + (1 : Int))), ()), ())))
  else some (Sum.inr ((x21.1.1, ()), ()))
noncomputable def ref1RulesText_L3 (r : ByteArray × Int × Int × (List (Int × Int × Int × (List (Int × Int × Int × Int × Unit)) × Unit)) × (List Int) × Bool × Bool × (List (Int × Int × Int × Bool × Unit)) × Int × Int × Int × Unit) (x20 : (ByteArray × Int × Unit) × (Unit)) : Option (((ByteArray × Int × Unit) × (Unit)) ⊕ ((ByteArray × Unit) × (Unit))) :=
  bif (decide (x20.1.2.1 ≥ (0 : Int))) then (Option.bind (req (strRoom x20.1.1 (ByteArray.mk #[114, 111, 119, 32])) (Option.bind (iterW (ref1RulesText_L4 r x20) (((x20.1.1 ++ (ByteArray.mk #[114, 111, 119, 32])), (0 : Int), ()), ())) fun x25 =>
  req (strRoom x25.1.1 (ByteArray.mk #[10])) (some (((x25.1.1 ++ (ByteArray.mk #[10])), ()), ())))) fun x26 =>
  some (Sum.inl ((x26.1.1, (w64 (x20.1.2.1 - (1 : Int))), ()), ())))
  else some (Sum.inr ((x20.1.1, ()), ()))
noncomputable def ref1RulesText_L5 (r : ByteArray × Int × Int × (List (Int × Int × Int × (List (Int × Int × Int × Int × Unit)) × Unit)) × (List Int) × Bool × Bool × (List (Int × Int × Int × Bool × Unit)) × Int × Int × Int × Unit) (x30 : (ByteArray × Int × Unit) × (Unit)) : Option (((ByteArray × Int × Unit) × (Unit)) ⊕ ((ByteArray × Unit) × (Unit))) :=
  bif (decide (x30.1.2.1 < ((r.2.2.2.2.2.2.2.1.length : Nat) : Int))) then (Option.bind (at? r.2.2.2.2.2.2.2.1 x30.1.2.1) fun d31 =>
  Option.bind (at? r.2.2.2.1 d31.2.1) fun d32 =>
  Option.bind (ref1Dec d31.2.2.1) fun r33 =>
  req (strRoom (ByteArray.mk #[108, 105, 110, 101, 32]) r33) (req (strRoom (ByteArray.mk #[114, 101, 97, 99, 104, 32]) (strOf ([d32.1]))) (req (strRoom (ByteArray.mk #[116, 97, 107, 101, 32]) (strOf ([d32.1]))) (req (strRoom ((ByteArray.mk #[116, 97, 107, 101, 32]) ++ (strOf ([d32.1]))) (ByteArray.mk #[32])) (Option.bind (ref1Dec d31.2.2.1) fun r34 =>
  req (strRoom (((ByteArray.mk #[116, 97, 107, 101, 32]) ++ (strOf ([d32.1]))) ++ (ByteArray.mk #[32])) r34) (req (inb d31.1 ([((ByteArray.mk #[108, 105, 110, 101, 32]) ++ r33), ((ByteArray.mk #[114, 101, 97, 99, 104, 32]) ++ (strOf ([d32.1]))), ((((ByteArray.mk #[116, 97, 107, 101, 32]) ++ (strOf ([d32.1]))) ++ (ByteArray.mk #[32])) ++ r34)]).length) (req (strRoom (ByteArray.mk #[101, 110, 100, 32]) (getD' ([((ByteArray.mk #[108, 105, 110, 101, 32]) ++ r33), ((ByteArray.mk #[114, 101, 97, 99, 104, 32]) ++ (strOf ([d32.1]))), ((((ByteArray.mk #[116, 97, 107, 101, 32]) ++ (strOf ([d32.1]))) ++ (ByteArray.mk #[32])) ++ r34)]) ((d31.1).toNat) ByteArray.empty)) (req (strRoom x30.1.1 ((ByteArray.mk #[101, 110, 100, 32]) ++ (getD' ([((ByteArray.mk #[108, 105, 110, 101, 32]) ++ r33), ((ByteArray.mk #[114, 101, 97, 99, 104, 32]) ++ (strOf ([d32.1]))), ((((ByteArray.mk #[116, 97, 107, 101, 32]) ++ (strOf ([d32.1]))) ++ (ByteArray.mk #[32])) ++ r34)]) ((d31.1).toNat) ByteArray.empty))) (Option.bind (bif d31.2.2.2.1 then req (strRoom (x30.1.1 ++ ((ByteArray.mk #[101, 110, 100, 32]) ++ (getD' ([((ByteArray.mk #[108, 105, 110, 101, 32]) ++ r33), ((ByteArray.mk #[114, 101, 97, 99, 104, 32]) ++ (strOf ([d32.1]))), ((((ByteArray.mk #[116, 97, 107, 101, 32]) ++ (strOf ([d32.1]))) ++ (ByteArray.mk #[32])) ++ r34)]) ((d31.1).toNat) ByteArray.empty))) (ByteArray.mk #[32, 108, 111, 115, 101, 115, 10])) (some ((((x30.1.1 ++ ((ByteArray.mk #[101, 110, 100, 32]) ++ (getD' ([((ByteArray.mk #[108, 105, 110, 101, 32]) ++ r33), ((ByteArray.mk #[114, 101, 97, 99, 104, 32]) ++ (strOf ([d32.1]))), ((((ByteArray.mk #[116, 97, 107, 101, 32]) ++ (strOf ([d32.1]))) ++ (ByteArray.mk #[32])) ++ r34)]) ((d31.1).toNat) ByteArray.empty))) ++ (ByteArray.mk #[32, 108, 111, 115, 101, 115, 10])), ()), ()))
  else req (strRoom (x30.1.1 ++ ((ByteArray.mk #[101, 110, 100, 32]) ++ (getD' ([((ByteArray.mk #[108, 105, 110, 101, 32]) ++ r33), ((ByteArray.mk #[114, 101, 97, 99, 104, 32]) ++ (strOf ([d32.1]))), ((((ByteArray.mk #[116, 97, 107, 101, 32]) ++ (strOf ([d32.1]))) ++ (ByteArray.mk #[32])) ++ r34)]) ((d31.1).toNat) ByteArray.empty))) (ByteArray.mk #[32, 119, 105, 110, 115, 10])) (some ((((x30.1.1 ++ ((ByteArray.mk #[101, 110, 100, 32]) ++ (getD' ([((ByteArray.mk #[108, 105, 110, 101, 32]) ++ r33), ((ByteArray.mk #[114, 101, 97, 99, 104, 32]) ++ (strOf ([d32.1]))), ((((ByteArray.mk #[116, 97, 107, 101, 32]) ++ (strOf ([d32.1]))) ++ (ByteArray.mk #[32])) ++ r34)]) ((d31.1).toNat) ByteArray.empty))) ++ (ByteArray.mk #[32, 119, 105, 110, 115, 10])), ()), ()))) fun x35 =>
  some (Sum.inl ((x35.1.1, (w64 (x30.1.2.1 + (1 : Int))), ()), ())))))))))))
  else some (Sum.inr ((x30.1.1, ()), ()))
noncomputable def ref1RulesText (r : ByteArray × Int × Int × (List (Int × Int × Int × (List (Int × Int × Int × Int × Unit)) × Unit)) × (List Int) × Bool × Bool × (List (Int × Int × Int × Bool × Unit)) × Int × Int × Int × Unit) : Option (ByteArray) :=
  req (strRoom (ByteArray.mk #[103, 97, 109, 101, 32]) r.1) (req (strRoom ((ByteArray.mk #[103, 97, 109, 101, 32]) ++ r.1) (ByteArray.mk #[32])) (Option.bind (ref1Dec r.2.1) fun r5 =>
  req (strRoom (((ByteArray.mk #[103, 97, 109, 101, 32]) ++ r.1) ++ (ByteArray.mk #[32])) r5) (req (strRoom ((((ByteArray.mk #[103, 97, 109, 101, 32]) ++ r.1) ++ (ByteArray.mk #[32])) ++ r5) (ByteArray.mk #[32])) (Option.bind (ref1Dec r.2.2.1) fun r6 =>
  req (strRoom (((((ByteArray.mk #[103, 97, 109, 101, 32]) ++ r.1) ++ (ByteArray.mk #[32])) ++ r5) ++ (ByteArray.mk #[32])) r6) (req (strRoom ((((((ByteArray.mk #[103, 97, 109, 101, 32]) ++ r.1) ++ (ByteArray.mk #[32])) ++ r5) ++ (ByteArray.mk #[32])) ++ r6) (ByteArray.mk #[10])) (Option.bind (iterW (ref1RulesText_L1 r) (((((((((ByteArray.mk #[103, 97, 109, 101, 32]) ++ r.1) ++ (ByteArray.mk #[32])) ++ r5) ++ (ByteArray.mk #[32])) ++ r6) ++ (ByteArray.mk #[10])), (0 : Int), ()), ())) fun x19 =>
  Option.bind (iterW (ref1RulesText_L3 r) ((x19.1.1, (w64 (r.2.2.1 - (1 : Int))), ()), ())) fun x27 =>
  Option.bind (bif r.2.2.2.2.2.1 then req (strRoom x27.1.1 (ByteArray.mk #[102, 97, 108, 108, 115, 10])) (some (((x27.1.1 ++ (ByteArray.mk #[102, 97, 108, 108, 115, 10])), ()), ()))
  else some ((x27.1.1, ()), ())) fun x28 =>
  Option.bind (bif r.2.2.2.2.2.2.1 then req (strRoom x28.1.1 (ByteArray.mk #[107, 101, 101, 112, 115, 10])) (some (((x28.1.1 ++ (ByteArray.mk #[107, 101, 101, 112, 115, 10])), ()), ()))
  else some ((x28.1.1, ()), ())) fun x29 =>
  Option.bind (iterW (ref1RulesText_L5 r) ((x29.1.1, (0 : Int), ()), ())) fun x36 =>
  req (strRoom x36.1.1 (ByteArray.mk #[98, 108, 111, 99, 107, 101, 100, 32])) (Option.bind (ref1Dec r.2.2.2.2.2.2.2.2.2.1) fun r37 =>
  Option.bind (ref1Dec r.2.2.2.2.2.2.2.2.2.2.1) fun r38 =>
  req (inb r.2.2.2.2.2.2.2.2.1 ([(ByteArray.mk #[108, 111, 115, 101, 115]), (ByteArray.mk #[119, 105, 110, 115]), (ByteArray.mk #[100, 114, 97, 119, 115])]).length) (req (strRoom (x36.1.1 ++ (ByteArray.mk #[98, 108, 111, 99, 107, 101, 100, 32])) (getD' ([(ByteArray.mk #[108, 111, 115, 101, 115]), (ByteArray.mk #[119, 105, 110, 115]), (ByteArray.mk #[100, 114, 97, 119, 115])]) ((r.2.2.2.2.2.2.2.2.1).toNat) ByteArray.empty)) (req (strRoom ((x36.1.1 ++ (ByteArray.mk #[98, 108, 111, 99, 107, 101, 100, 32])) ++ (getD' ([(ByteArray.mk #[108, 111, 115, 101, 115]), (ByteArray.mk #[119, 105, 110, 115]), (ByteArray.mk #[100, 114, 97, 119, 115])]) ((r.2.2.2.2.2.2.2.2.1).toNat) ByteArray.empty)) (ByteArray.mk #[10, 113, 117, 105, 101, 116, 32])) (req (strRoom (((x36.1.1 ++ (ByteArray.mk #[98, 108, 111, 99, 107, 101, 100, 32])) ++ (getD' ([(ByteArray.mk #[108, 111, 115, 101, 115]), (ByteArray.mk #[119, 105, 110, 115]), (ByteArray.mk #[100, 114, 97, 119, 115])]) ((r.2.2.2.2.2.2.2.2.1).toNat) ByteArray.empty)) ++ (ByteArray.mk #[10, 113, 117, 105, 101, 116, 32])) r37) (req (strRoom ((((x36.1.1 ++ (ByteArray.mk #[98, 108, 111, 99, 107, 101, 100, 32])) ++ (getD' ([(ByteArray.mk #[108, 111, 115, 101, 115]), (ByteArray.mk #[119, 105, 110, 115]), (ByteArray.mk #[100, 114, 97, 119, 115])]) ((r.2.2.2.2.2.2.2.2.1).toNat) ByteArray.empty)) ++ (ByteArray.mk #[10, 113, 117, 105, 101, 116, 32])) ++ r37) (ByteArray.mk #[10, 114, 101, 112, 101, 97, 116, 32])) (req (strRoom (((((x36.1.1 ++ (ByteArray.mk #[98, 108, 111, 99, 107, 101, 100, 32])) ++ (getD' ([(ByteArray.mk #[108, 111, 115, 101, 115]), (ByteArray.mk #[119, 105, 110, 115]), (ByteArray.mk #[100, 114, 97, 119, 115])]) ((r.2.2.2.2.2.2.2.2.1).toNat) ByteArray.empty)) ++ (ByteArray.mk #[10, 113, 117, 105, 101, 116, 32])) ++ r37) ++ (ByteArray.mk #[10, 114, 101, 112, 101, 97, 116, 32])) r38) (req (strRoom ((((((x36.1.1 ++ (ByteArray.mk #[98, 108, 111, 99, 107, 101, 100, 32])) ++ (getD' ([(ByteArray.mk #[108, 111, 115, 101, 115]), (ByteArray.mk #[119, 105, 110, 115]), (ByteArray.mk #[100, 114, 97, 119, 115])]) ((r.2.2.2.2.2.2.2.2.1).toNat) ByteArray.empty)) ++ (ByteArray.mk #[10, 113, 117, 105, 101, 116, 32])) ++ r37) ++ (ByteArray.mk #[10, 114, 101, 112, 101, 97, 116, 32])) ++ r38) (ByteArray.mk #[10])) (some (((((((x36.1.1 ++ (ByteArray.mk #[98, 108, 111, 99, 107, 101, 100, 32])) ++ (getD' ([(ByteArray.mk #[108, 111, 115, 101, 115]), (ByteArray.mk #[119, 105, 110, 115]), (ByteArray.mk #[100, 114, 97, 119, 115])]) ((r.2.2.2.2.2.2.2.2.1).toNat) ByteArray.empty)) ++ (ByteArray.mk #[10, 113, 117, 105, 101, 116, 32])) ++ r37) ++ (ByteArray.mk #[10, 114, 101, 112, 101, 97, 116, 32])) ++ r38) ++ (ByteArray.mk #[10]))))))))))))))))
noncomputable def law1RuletextPrints (r : ByteArray × Int × Int × (List (Int × Int × Int × (List (Int × Int × Int × Int × Unit)) × Unit)) × (List Int) × Bool × Bool × (List (Int × Int × Int × Bool × Unit)) × Int × Int × Int × Unit) : Option (Bool) :=
  Option.bind (ruletextPrint ((law1Three).1, (((law1Three).2).1, ((((law1Three).2).2).1, (((((law1Three).2).2).2).1, ((((((law1Three).2).2).2).2).1, (((((((law1Three).2).2).2).2).2).1, ((((((((law1Three).2).2).2).2).2).2).1, (((((((((law1Three).2).2).2).2).2).2).2).1, ((((((((((law1Three).2).2).2).2).2).2).2).2).1, (((((((((((law1Three).2).2).2).2).2).2).2).2).2).1, ((((((((((((law1Three).2).2).2).2).2).2).2).2).2).2).1, ())))))))))))) fun r5 =>
  Option.bind (bif (r5.2.1 != (0 : Int)) then some ((true, ()), ())
  else Option.bind (ref1RulesText ((law1Three).1, (((law1Three).2).1, ((((law1Three).2).2).1, (((((law1Three).2).2).2).1, ((((((law1Three).2).2).2).2).1, (((((((law1Three).2).2).2).2).2).1, ((((((((law1Three).2).2).2).2).2).2).1, (((((((((law1Three).2).2).2).2).2).2).2).1, ((((((((((law1Three).2).2).2).2).2).2).2).2).1, (((((((((((law1Three).2).2).2).2).2).2).2).2).2).1, ((((((((((((law1Three).2).2).2).2).2).2).2).2).2).2).1, ())))))))))))) fun r6 =>
  some (((!(r5.1.toList == r6.toList)), ()), ())) fun x7 =>
  bif x7.1.1 then some false
  else Option.bind (ruletextPrint r) fun r8 =>
  Option.bind (ref1RulesError r) fun r9 =>
  bif (r9 != (0 : Int)) then some ((r8.2.1 == r9) && (r8.1.toList == (ByteArray.mk #[]).toList))
  else Option.bind (gopt (r8.2.1 == (0 : Int)) ByteArray.empty (ref1RulesText r)) fun r10 =>
  some ((r8.2.1 == (0 : Int)) && (r8.1.toList == r10.toList))
end Go.Proofs.YtjikbbjjnndcbaaDoor
