/- Several texts in one: ProofnumProvesS, DenS, DenP, DenQ, DenL, ProofnumProvesM, RulesCore, CoreV, CoreM, CoreP, CoreN, CoreO. -/
import Derived.Test.YtcifaoaepbidoaaMAA
import Derived.Test.YtcifaoaepbidoaaMAD
import Derived.Shelf.SlSortCmp.NoneTotal
import Derived.Laws.Strings
namespace Go.Proofs.Ytcifaoaepbidoaa
open Go.Den
set_option linter.unusedVariables false
set_option maxRecDepth 100000
noncomputable section
def qo (r3:List Zv36) (n:Nat) (x:Zv7×Int×Unit) (x4:Zv42×((List (Zv11×(Option (List Nat))))×Unit)):Option ((Zv42×((List (Zv11×(Option (List Nat))))×Unit)) ⊕ ((Unit)×((List (Zv11×(Option (List Nat))))×Unit))) :=
  bif (decide (x4.1.1<((r3.length:Nat):Int))) then(req (inb x4.1.1 r3.length) (Option.bind (req (Nat.blt 0 n) (req (Nat.blt 0 n) (agree (Option.bind (qck x.1 (((ndP x4.2.1 (([],(([],([],())),((0:Int),((0:Int),())))),((0:Int),((0:Int),(false,())))) n).1).1,((((((ndP x4.2.1 (([],(([],([],())),((0:Int),((0:Int),())))),((0:Int),((0:Int),(false,())))) n).1).2).1).1,((((((ndP x4.2.1 (([],(([],([],())),((0:Int),((0:Int),())))),((0:Int),((0:Int),(false,())))) n).1).2).1).2).1,())),(((((ndP x4.2.1 (([],(([],([],())),((0:Int),((0:Int),())))),((0:Int),((0:Int),(false,())))) n).1).2).2).1,((((((ndP x4.2.1 (([],(([],([],())),((0:Int),((0:Int),())))),((0:Int),((0:Int),(false,())))) n).1).2).2).2).1,())))) (getD' r3 ((x4.1.1).toNat) ((0:Int),((0:Int),((0:Int),()))))) fun r5 =>
  Option.bind (some (addP x4.2.1 ((r5.1,((r5.2.1.1,(r5.2.1.2.1,())),r5.2.2)),((1:Int),((1:Int),(false,())))))) fun ns6 =>
  Option.bind (qav x.1 (r5.1,((r5.2.1.1,(r5.2.1.2.1,())),r5.2.2))) fun r7 =>
  bif (r7==0) then(req (room ((kdP ns6 (([],(([],([],())),((0:Int),((0:Int),())))),((0:Int),((0:Int),(false,())))) n).length+([(x4.2.1.length+1)]).length) 8) (req (Nat.blt 0 n) (req (Nat.beq (n-1) (n-1)) (Option.bind (some (putP ns6 (([],(([],([],())),((0:Int),((0:Int),())))),((0:Int),((0:Int),(false,())))) n ((kdP ns6 (([],(([],([],())),((0:Int),((0:Int),())))),((0:Int),((0:Int),(false,())))) n)++([(x4.2.1.length+1)])))) fun ns8 =>
  some ((),(ns8,()))))))
  else bif (r7==(w64 ((1:Int)+x.2.1))) then(req (Nat.blt 0 (x4.2.1.length+1)) (Option.bind (some (ndP ns6 (([],(([],([],())),((0:Int),((0:Int),())))),((0:Int),((0:Int),(false,())))) (x4.2.1.length+1))) fun e9 =>
  Option.bind (some (setP ns6 (([],(([],([],())),((0:Int),((0:Int),())))),((0:Int),((0:Int),(false,())))) (x4.2.1.length+1) (e9.1,((0:Int),e9.2.2)))) fun ns10 =>
  req (Nat.blt 0 (x4.2.1.length+1)) (Option.bind (some (ndP ns10 (([],(([],([],())),((0:Int),((0:Int),())))),((0:Int),((0:Int),(false,())))) (x4.2.1.length+1))) fun e11 =>
  Option.bind (some (setP ns10 (([],(([],([],())),((0:Int),((0:Int),())))),((0:Int),((0:Int),(false,())))) (x4.2.1.length+1) (e11.1,(e11.2.1,((1099511627776:Int),e11.2.2.2))))) fun ns12 =>
  req (room ((kdP ns12 (([],(([],([],())),((0:Int),((0:Int),())))),((0:Int),((0:Int),(false,())))) n).length+([(x4.2.1.length+1)]).length) 8) (req (Nat.blt 0 n) (req (Nat.beq (n-1) (n-1)) (Option.bind (some (putP ns12 (([],(([],([],())),((0:Int),((0:Int),())))),((0:Int),((0:Int),(false,())))) n ((kdP ns12 (([],(([],([],())),((0:Int),((0:Int),())))),((0:Int),((0:Int),(false,())))) n)++([(x4.2.1.length+1)])))) fun ns13 =>
  some ((),(ns13,()))))))))
  else req (Nat.blt 0 (x4.2.1.length+1)) (Option.bind (some (ndP ns6 (([],(([],([],())),((0:Int),((0:Int),())))),((0:Int),((0:Int),(false,())))) (x4.2.1.length+1))) fun e14 =>
  Option.bind (some (setP ns6 (([],(([],([],())),((0:Int),((0:Int),())))),((0:Int),((0:Int),(false,())))) (x4.2.1.length+1) (e14.1,((1099511627776:Int),e14.2.2)))) fun ns15 =>
  req (Nat.blt 0 (x4.2.1.length+1)) (Option.bind (some (ndP ns15 (([],(([],([],())),((0:Int),((0:Int),())))),((0:Int),((0:Int),(false,())))) (x4.2.1.length+1))) fun e16 =>
  Option.bind (some (setP ns15 (([],(([],([],())),((0:Int),((0:Int),())))),((0:Int),((0:Int),(false,())))) (x4.2.1.length+1) (e16.1,(e16.2.1,((0:Int),e16.2.2.2))))) fun ns17 =>
  req (room ((kdP ns17 (([],(([],([],())),((0:Int),((0:Int),())))),((0:Int),((0:Int),(false,())))) n).length+([(x4.2.1.length+1)]).length) 8) (req (Nat.blt 0 n) (req (Nat.beq (n-1) (n-1)) (Option.bind (some (putP ns17 (([],(([],([],())),((0:Int),((0:Int),())))),((0:Int),((0:Int),(false,())))) n ((kdP ns17 (([],(([],([],())),((0:Int),((0:Int),())))),((0:Int),((0:Int),(false,())))) n)++([(x4.2.1.length+1)])))) fun ns18 =>
  some ((),(ns18,())))))))) (Option.bind (qck x.1 (((ndP x4.2.1 (([],(([],([],())),((0:Int),((0:Int),())))),((0:Int),((0:Int),(false,())))) n).1).1,((((((ndP x4.2.1 (([],(([],([],())),((0:Int),((0:Int),())))),((0:Int),((0:Int),(false,())))) n).1).2).1).1,((((((ndP x4.2.1 (([],(([],([],())),((0:Int),((0:Int),())))),((0:Int),((0:Int),(false,())))) n).1).2).1).2).1,())),(((((ndP x4.2.1 (([],(([],([],())),((0:Int),((0:Int),())))),((0:Int),((0:Int),(false,())))) n).1).2).2).1,((((((ndP x4.2.1 (([],(([],([],())),((0:Int),((0:Int),())))),((0:Int),((0:Int),(false,())))) n).1).2).2).2).1,())))) (getD' r3 ((x4.1.1).toNat) ((0:Int),((0:Int),((0:Int),()))))) fun r19 =>
  agree (Option.bind (some (addP x4.2.1 ((r19.1,((r19.2.1.1,(r19.2.1.2.1,())),r19.2.2)),((1:Int),((1:Int),(false,())))))) fun ns20 =>
  Option.bind (qav x.1 (r19.1,((r19.2.1.1,(r19.2.1.2.1,())),r19.2.2))) fun r21 =>
  bif (r21==0) then(req (room ((kdP ns20 (([],(([],([],())),((0:Int),((0:Int),())))),((0:Int),((0:Int),(false,())))) n).length+([(x4.2.1.length+1)]).length) 8) (req (Nat.blt 0 n) (req (Nat.beq (n-1) (n-1)) (Option.bind (some (putP ns20 (([],(([],([],())),((0:Int),((0:Int),())))),((0:Int),((0:Int),(false,())))) n ((kdP ns20 (([],(([],([],())),((0:Int),((0:Int),())))),((0:Int),((0:Int),(false,())))) n)++([(x4.2.1.length+1)])))) fun ns22 =>
  some ((),(ns22,()))))))
  else bif (r21==(w64 ((1:Int)+x.2.1))) then(req (Nat.blt 0 (x4.2.1.length+1)) (Option.bind (some (ndP ns20 (([],(([],([],())),((0:Int),((0:Int),())))),((0:Int),((0:Int),(false,())))) (x4.2.1.length+1))) fun e23 =>
  Option.bind (some (setP ns20 (([],(([],([],())),((0:Int),((0:Int),())))),((0:Int),((0:Int),(false,())))) (x4.2.1.length+1) (e23.1,((0:Int),e23.2.2)))) fun ns24 =>
  req (Nat.blt 0 (x4.2.1.length+1)) (Option.bind (some (ndP ns24 (([],(([],([],())),((0:Int),((0:Int),())))),((0:Int),((0:Int),(false,())))) (x4.2.1.length+1))) fun e25 =>
  Option.bind (some (setP ns24 (([],(([],([],())),((0:Int),((0:Int),())))),((0:Int),((0:Int),(false,())))) (x4.2.1.length+1) (e25.1,(e25.2.1,((1099511627776:Int),e25.2.2.2))))) fun ns26 =>
  req (room ((kdP ns26 (([],(([],([],())),((0:Int),((0:Int),())))),((0:Int),((0:Int),(false,())))) n).length+([(x4.2.1.length+1)]).length) 8) (req (Nat.blt 0 n) (req (Nat.beq (n-1) (n-1)) (Option.bind (some (putP ns26 (([],(([],([],())),((0:Int),((0:Int),())))),((0:Int),((0:Int),(false,())))) n ((kdP ns26 (([],(([],([],())),((0:Int),((0:Int),())))),((0:Int),((0:Int),(false,())))) n)++([(x4.2.1.length+1)])))) fun ns27 =>
  some ((),(ns27,()))))))))
  else req (Nat.blt 0 (x4.2.1.length+1)) (Option.bind (some (ndP ns20 (([],(([],([],())),((0:Int),((0:Int),())))),((0:Int),((0:Int),(false,())))) (x4.2.1.length+1))) fun e28 =>
  Option.bind (some (setP ns20 (([],(([],([],())),((0:Int),((0:Int),())))),((0:Int),((0:Int),(false,())))) (x4.2.1.length+1) (e28.1,((1099511627776:Int),e28.2.2)))) fun ns29 =>
  req (Nat.blt 0 (x4.2.1.length+1)) (Option.bind (some (ndP ns29 (([],(([],([],())),((0:Int),((0:Int),())))),((0:Int),((0:Int),(false,())))) (x4.2.1.length+1))) fun e30 =>
  Option.bind (some (setP ns29 (([],(([],([],())),((0:Int),((0:Int),())))),((0:Int),((0:Int),(false,())))) (x4.2.1.length+1) (e30.1,(e30.2.1,((0:Int),e30.2.2.2))))) fun ns31 =>
  req (room ((kdP ns31 (([],(([],([],())),((0:Int),((0:Int),())))),((0:Int),((0:Int),(false,())))) n).length+([(x4.2.1.length+1)]).length) 8) (req (Nat.blt 0 n) (req (Nat.beq (n-1) (n-1)) (Option.bind (some (putP ns31 (([],(([],([],())),((0:Int),((0:Int),())))),((0:Int),((0:Int),(false,())))) n ((kdP ns31 (([],(([],([],())),((0:Int),((0:Int),())))),((0:Int),((0:Int),(false,())))) n)++([(x4.2.1.length+1)])))) fun ns32 =>
  some ((),(ns32,())))))))) (Option.bind (some (addP x4.2.1 ((r19.1,((r19.2.1.1,(r19.2.1.2.1,())),r19.2.2)),((1:Int),((1:Int),(false,())))))) fun ns33 =>
  Option.bind (qav x.1 (r19.1,((r19.2.1.1,(r19.2.1.2.1,())),r19.2.2))) fun r34 =>
  bif (r34==0) then(req (room ((kdP ns33 (([],(([],([],())),((0:Int),((0:Int),())))),((0:Int),((0:Int),(false,())))) n).length+([(x4.2.1.length+1)]).length) 8) (req (Nat.blt 0 n) (req (Nat.beq (n-1) (n-1)) (Option.bind (some (putP ns33 (([],(([],([],())),((0:Int),((0:Int),())))),((0:Int),((0:Int),(false,())))) n ((kdP ns33 (([],(([],([],())),((0:Int),((0:Int),())))),((0:Int),((0:Int),(false,())))) n)++([(x4.2.1.length+1)])))) fun ns35 =>
  some ((),(ns35,()))))))
  else bif (r34==(w64 ((1:Int)+x.2.1))) then(req (Nat.blt 0 (x4.2.1.length+1)) (Option.bind (some (ndP ns33 (([],(([],([],())),((0:Int),((0:Int),())))),((0:Int),((0:Int),(false,())))) (x4.2.1.length+1))) fun e36 =>
  Option.bind (some (setP ns33 (([],(([],([],())),((0:Int),((0:Int),())))),((0:Int),((0:Int),(false,())))) (x4.2.1.length+1) (e36.1,((0:Int),e36.2.2)))) fun ns37 =>
  req (Nat.blt 0 (x4.2.1.length+1)) (Option.bind (some (ndP ns37 (([],(([],([],())),((0:Int),((0:Int),())))),((0:Int),((0:Int),(false,())))) (x4.2.1.length+1))) fun e38 =>
  Option.bind (some (setP ns37 (([],(([],([],())),((0:Int),((0:Int),())))),((0:Int),((0:Int),(false,())))) (x4.2.1.length+1) (e38.1,(e38.2.1,((1099511627776:Int),e38.2.2.2))))) fun ns39 =>
  req (room ((kdP ns39 (([],(([],([],())),((0:Int),((0:Int),())))),((0:Int),((0:Int),(false,())))) n).length+([(x4.2.1.length+1)]).length) 8) (req (Nat.blt 0 n) (req (Nat.beq (n-1) (n-1)) (Option.bind (some (putP ns39 (([],(([],([],())),((0:Int),((0:Int),())))),((0:Int),((0:Int),(false,())))) n ((kdP ns39 (([],(([],([],())),((0:Int),((0:Int),())))),((0:Int),((0:Int),(false,())))) n)++([(x4.2.1.length+1)])))) fun ns40 =>
  some ((),(ns40,()))))))))
  else req (Nat.blt 0 (x4.2.1.length+1)) (Option.bind (some (ndP ns33 (([],(([],([],())),((0:Int),((0:Int),())))),((0:Int),((0:Int),(false,())))) (x4.2.1.length+1))) fun e41 =>
  Option.bind (some (setP ns33 (([],(([],([],())),((0:Int),((0:Int),())))),((0:Int),((0:Int),(false,())))) (x4.2.1.length+1) (e41.1,((1099511627776:Int),e41.2.2)))) fun ns42 =>
  req (Nat.blt 0 (x4.2.1.length+1)) (Option.bind (some (ndP ns42 (([],(([],([],())),((0:Int),((0:Int),())))),((0:Int),((0:Int),(false,())))) (x4.2.1.length+1))) fun e43 =>
  Option.bind (some (setP ns42 (([],(([],([],())),((0:Int),((0:Int),())))),((0:Int),((0:Int),(false,())))) (x4.2.1.length+1) (e43.1,(e43.2.1,((0:Int),e43.2.2.2))))) fun ns44 =>
  req (room ((kdP ns44 (([],(([],([],())),((0:Int),((0:Int),())))),((0:Int),((0:Int),(false,())))) n).length+([(x4.2.1.length+1)]).length) 8) (req (Nat.blt 0 n) (req (Nat.beq (n-1) (n-1)) (Option.bind (some (putP ns44 (([],(([],([],())),((0:Int),((0:Int),())))),((0:Int),((0:Int),(false,())))) n ((kdP ns44 (([],(([],([],())),((0:Int),((0:Int),())))),((0:Int),((0:Int),(false,())))) n)++([(x4.2.1.length+1)])))) fun ns45 =>
  some ((),(ns45,())))))))))))) fun x46 =>
  some (Sum.inl (((w64 (x4.1.1+1)),()),(x46.2.1,())))))
  else some (Sum.inr ((),(x4.2.1,())))
def qz (ns:List (Zv11×(Option (List Nat)))) (n:Nat) (x:Zv7×Int×Unit) (x48:(Nat×Int×Unit)×(Unit)):Option (((Nat×Int×Unit)×(Unit)) ⊕ ((Nat×Unit)×(Unit))) :=
  bif (decide (x48.1.2.1<(((kdP ns (([],(([],([],())),((0:Int),((0:Int),())))),((0:Int),((0:Int),(false,())))) n).length:Nat):Int))) then(req (inb x48.1.2.1 (kdP ns (([],(([],([],())),((0:Int),((0:Int),())))),((0:Int),((0:Int),(false,())))) n).length) (Option.bind (bif (((((ndP ns (([],(([],([],())),((0:Int),((0:Int),())))),((0:Int),((0:Int),(false,())))) n).1).2).2).1==x.2.1) then(req (Nat.blt 0 (getD' (kdP ns (([],(([],([],())),((0:Int),((0:Int),())))),((0:Int),((0:Int),(false,())))) n) ((x48.1.2.1).toNat) 0)) (bif (((((ndP ns (([],(([],([],())),((0:Int),((0:Int),())))),((0:Int),((0:Int),(false,())))) n).1).2).2).1==x.2.1) then req (Nat.blt 0 x48.1.1) (some (((decide (((ndP ns (([],(([],([],())),((0:Int),((0:Int),())))),((0:Int),((0:Int),(false,())))) (getD' (kdP ns (([],(([],([],())),((0:Int),((0:Int),())))),((0:Int),((0:Int),(false,())))) n) ((x48.1.2.1).toNat) 0)).2).1<((ndP ns (([],(([],([],())),((0:Int),((0:Int),())))),((0:Int),((0:Int),(false,())))) x48.1.1).2).1)),()),()))
  else req (Nat.blt 0 x48.1.1) (some (((decide (((ndP ns (([],(([],([],())),((0:Int),((0:Int),())))),((0:Int),((0:Int),(false,())))) (getD' (kdP ns (([],(([],([],())),((0:Int),((0:Int),())))),((0:Int),((0:Int),(false,())))) n) ((x48.1.2.1).toNat) 0)).2).1<(((ndP ns (([],(([],([],())),((0:Int),((0:Int),())))),((0:Int),((0:Int),(false,())))) x48.1.1).2).2).1)),()),()))))
  else req (Nat.blt 0 (getD' (kdP ns (([],(([],([],())),((0:Int),((0:Int),())))),((0:Int),((0:Int),(false,())))) n) ((x48.1.2.1).toNat) 0)) (bif (((((ndP ns (([],(([],([],())),((0:Int),((0:Int),())))),((0:Int),((0:Int),(false,())))) n).1).2).2).1==x.2.1) then req (Nat.blt 0 x48.1.1) (some (((decide ((((ndP ns (([],(([],([],())),((0:Int),((0:Int),())))),((0:Int),((0:Int),(false,())))) (getD' (kdP ns (([],(([],([],())),((0:Int),((0:Int),())))),((0:Int),((0:Int),(false,())))) n) ((x48.1.2.1).toNat) 0)).2).2).1<((ndP ns (([],(([],([],())),((0:Int),((0:Int),())))),((0:Int),((0:Int),(false,())))) x48.1.1).2).1)),()),()))
  else req (Nat.blt 0 x48.1.1) (some (((decide ((((ndP ns (([],(([],([],())),((0:Int),((0:Int),())))),((0:Int),((0:Int),(false,())))) (getD' (kdP ns (([],(([],([],())),((0:Int),((0:Int),())))),((0:Int),((0:Int),(false,())))) n) ((x48.1.2.1).toNat) 0)).2).2).1<(((ndP ns (([],(([],([],())),((0:Int),((0:Int),())))),((0:Int),((0:Int),(false,())))) x48.1.1).2).2).1)),()),())))) fun x49 =>
  Option.bind (bif x49.1.1 then some (((getD' (kdP ns (([],(([],([],())),((0:Int),((0:Int),())))),((0:Int),((0:Int),(false,())))) n) ((x48.1.2.1).toNat) 0),()),())
  else some ((x48.1.1,()),())) fun x50 =>
  some (Sum.inl ((x50.1.1,(w64 (x48.1.2.1+1)),()),()))))
  else some (Sum.inr ((x48.1.1,()),()))
def qF (x53:(Unit)×(Zv6×(List (Zv11×(Option (List Nat))))×Unit)) (n:Nat) (x54:Zv36×(Unit)):Option (Zv29 ⊕ Zv35) :=
  bif (decide (x54.1.2.2.1<(((kdP x53.2.2.1 (([],(([],([],())),((0:Int),((0:Int),())))),((0:Int),((0:Int),(false,())))) n).length:Nat):Int))) then(req (inb x54.1.2.2.1 (kdP x53.2.2.1 (([],(([],([],())),((0:Int),((0:Int),())))),((0:Int),((0:Int),(false,())))) n).length) (req (Nat.blt 0 (getD' (kdP x53.2.2.1 (([],(([],([],())),((0:Int),((0:Int),())))),((0:Int),((0:Int),(false,())))) n) ((x54.1.2.2.1).toNat) 0)) (req (Nat.blt 0 (getD' (kdP x53.2.2.1 (([],(([],([],())),((0:Int),((0:Int),())))),((0:Int),((0:Int),(false,())))) n) ((x54.1.2.2.1).toNat) 0)) (Option.bind (bif (!(((((ndP x53.2.2.1 (([],(([],([],())),((0:Int),((0:Int),())))),((0:Int),((0:Int),(false,())))) n).1).2).2).1==x53.2.1.2.2.2.2.2.2.2.2.2.2.2.1)) then some (((((ndP x53.2.2.1 (([],(([],([],())),((0:Int),((0:Int),())))),((0:Int),((0:Int),(false,())))) (getD' (kdP x53.2.2.1 (([],(([],([],())),((0:Int),((0:Int),())))),((0:Int),((0:Int),(false,())))) n) ((x54.1.2.2.1).toNat) 0)).2).2).1,((ndP x53.2.2.1 (([],(([],([],())),((0:Int),((0:Int),())))),((0:Int),((0:Int),(false,())))) (getD' (kdP x53.2.2.1 (([],(([],([],())),((0:Int),((0:Int),())))),((0:Int),((0:Int),(false,())))) n) ((x54.1.2.2.1).toNat) 0)).2).1,()),())
  else some ((((ndP x53.2.2.1 (([],(([],([],())),((0:Int),((0:Int),())))),((0:Int),((0:Int),(false,())))) (getD' (kdP x53.2.2.1 (([],(([],([],())),((0:Int),((0:Int),())))),((0:Int),((0:Int),(false,())))) n) ((x54.1.2.2.1).toNat) 0)).2).1,(((ndP x53.2.2.1 (([],(([],([],())),((0:Int),((0:Int),())))),((0:Int),((0:Int),(false,())))) (getD' (kdP x53.2.2.1 (([],(([],([],())),((0:Int),((0:Int),())))),((0:Int),((0:Int),(false,())))) n) ((x54.1.2.2.1).toNat) 0)).2).2).1,()),())) fun x55 =>
  some (Sum.inl (((if x55.1.1<x54.1.1 then x55.1.1 else x54.1.1),(if (1099511627776:Int)<(w64 (x54.1.2.1+x55.1.2.1)) then(1099511627776:Int) else(w64 (x54.1.2.1+x55.1.2.1))),(w64 (x54.1.2.2.1+1)),()),()))))))
  else some (Sum.inr ((x54.1.1,x54.1.2.1,()),()))
def qC (self:(Zv5×Unit×(List (Zv11×(Option (List Nat))))×Nat×Unit)→Option (Zv5×(List (Zv11×(Option (List Nat))))×Unit)) (x:Zv7×Int×Unit) (ns:List (Zv11×(Option (List Nat)))) (n:Nat):Option (Zv5×(List (Zv11×(Option (List Nat))))×Unit) :=
  req (Nat.blt 0 n) (Option.bind (bif (!((((ndP ns (([],(([],([],())),((0:Int),((0:Int),())))),((0:Int),((0:Int),(false,())))) n).2).2).2).1) then(req (Nat.blt 0 n) (Option.bind (some (ndP ns (([],(([],([],())),((0:Int),((0:Int),())))),((0:Int),((0:Int),(false,())))) n)) fun e1 =>
  Option.bind (some (setP ns (([],(([],([],())),((0:Int),((0:Int),())))),((0:Int),((0:Int),(false,())))) n (e1.1,(e1.2.1,(e1.2.2.1,(true,())))))) fun ns2 =>
  req (Nat.blt 0 n) (Option.bind (qbo x.1 (((ndP ns2 (([],(([],([],())),((0:Int),((0:Int),())))),((0:Int),((0:Int),(false,())))) n).1).1,((((((ndP ns2 (([],(([],([],())),((0:Int),((0:Int),())))),((0:Int),((0:Int),(false,())))) n).1).2).1).1,((((((ndP ns2 (([],(([],([],())),((0:Int),((0:Int),())))),((0:Int),((0:Int),(false,())))) n).1).2).1).2).1,())),(((((ndP ns2 (([],(([],([],())),((0:Int),((0:Int),())))),((0:Int),((0:Int),(false,())))) n).1).2).2).1,((((((ndP ns2 (([],(([],([],())),((0:Int),((0:Int),())))),((0:Int),((0:Int),(false,())))) n).1).2).2).2).1,()))))) fun r3 =>
  Option.bind (iterW (qo r3 n x) (((0:Int),()),(ns2,()))) fun x47 =>
  some ((),((x.1.1,(x.1.2.1,(x.1.2.2.1,(x.1.2.2.2.1,(x.1.2.2.2.2.1,(x.1.2.2.2.2.2.1,(x.1.2.2.2.2.2.2.1,(x.1.2.2.2.2.2.2.2.1,(x.1.2.2.2.2.2.2.2.2.1,(x.1.2.2.2.2.2.2.2.2.2.1,(x.1.2.2.2.2.2.2.2.2.2.2.1,x.2))))))))))),x47.2.1,())))))
  else req (Nat.blt 0 n) (req (Nat.blt 0 n) (req (inb (0:Int) (kdP ns (([],(([],([],())),((0:Int),((0:Int),())))),((0:Int),((0:Int),(false,())))) n).length) (req (Nat.blt 0 n) (Option.bind (iterW (qz ns n x) (((getD' (kdP ns (([],(([],([],())),((0:Int),((0:Int),())))),((0:Int),((0:Int),(false,())))) n) 0 0),(0:Int),()),())) fun x51 =>
  Option.bind (self (x,(),ns,x51.1.1,())) fun r52 =>
  some ((),((r52.1.1.1,(r52.1.1.2.1,(r52.1.1.2.2.1,(r52.1.1.2.2.2.1,(r52.1.1.2.2.2.2.1,(r52.1.1.2.2.2.2.2.1,(r52.1.1.2.2.2.2.2.2.1,(r52.1.1.2.2.2.2.2.2.2.1,(r52.1.1.2.2.2.2.2.2.2.2.1,(r52.1.1.2.2.2.2.2.2.2.2.2.1,(r52.1.1.2.2.2.2.2.2.2.2.2.2.1,r52.1.2))))))))))),r52.2.1,()))))))) fun x53 =>
  req (Nat.blt 0 n) (req (Nat.blt 0 n) (Option.bind (iterW (qF x53 n) (((1099511627776:Int),(0:Int),(0:Int),()),())) fun x56 =>
  Option.bind (bif (((((ndP x53.2.2.1 (([],(([],([],())),((0:Int),((0:Int),())))),((0:Int),((0:Int),(false,())))) n).1).2).2).1==x53.2.1.2.2.2.2.2.2.2.2.2.2.2.1) then(req (Nat.blt 0 n) (Option.bind (some (ndP x53.2.2.1 (([],(([],([],())),((0:Int),((0:Int),())))),((0:Int),((0:Int),(false,())))) n)) fun e57 =>
  Option.bind (some (setP x53.2.2.1 (([],(([],([],())),((0:Int),((0:Int),())))),((0:Int),((0:Int),(false,())))) n (e57.1,(x56.1.1,e57.2.2)))) fun ns58 =>
  req (Nat.blt 0 n) (Option.bind (some (ndP ns58 (([],(([],([],())),((0:Int),((0:Int),())))),((0:Int),((0:Int),(false,())))) n)) fun e59 =>
  Option.bind (some (setP ns58 (([],(([],([],())),((0:Int),((0:Int),())))),((0:Int),((0:Int),(false,())))) n (e59.1,(e59.2.1,(x56.1.2.1,e59.2.2.2))))) fun ns60 =>
  some ((),(ns60,())))))
  else req (Nat.blt 0 n) (Option.bind (some (ndP x53.2.2.1 (([],(([],([],())),((0:Int),((0:Int),())))),((0:Int),((0:Int),(false,())))) n)) fun e61 =>
  Option.bind (some (setP x53.2.2.1 (([],(([],([],())),((0:Int),((0:Int),())))),((0:Int),((0:Int),(false,())))) n (e61.1,(x56.1.2.1,e61.2.2)))) fun ns62 =>
  req (Nat.blt 0 n) (Option.bind (some (ndP ns62 (([],(([],([],())),((0:Int),((0:Int),())))),((0:Int),((0:Int),(false,())))) n)) fun e63 =>
  Option.bind (some (setP ns62 (([],(([],([],())),((0:Int),((0:Int),())))),((0:Int),((0:Int),(false,())))) n (e63.1,(e63.2.1,(x56.1.1,e63.2.2.2))))) fun ns64 =>
  some ((),(ns64,()))))) fun x65 =>
  some (((x53.2.1.1,(x53.2.1.2.1,(x53.2.1.2.2.1,(x53.2.1.2.2.2.1,(x53.2.1.2.2.2.2.1,(x53.2.1.2.2.2.2.2.1,(x53.2.1.2.2.2.2.2.2.1,(x53.2.1.2.2.2.2.2.2.2.1,(x53.2.1.2.2.2.2.2.2.2.2.1,(x53.2.1.2.2.2.2.2.2.2.2.2.1,(x53.2.1.2.2.2.2.2.2.2.2.2.2.1,()))))))))))),x53.2.1.2.2.2.2.2.2.2.2.2.2.2),x65.2.1,()))))
def qB (self:(Zv5×Unit×(List (Zv11×(Option (List Nat))))×Nat×Unit)→Option (Zv5×(List (Zv11×(Option (List Nat))))×Unit)) (x:Zv5×Unit×(List (Zv11×(Option (List Nat))))×Nat×Unit):Option (Zv5×(List (Zv11×(Option (List Nat))))×Unit):=qC self x.1 x.2.2.1 x.2.2.2.1
def qah (x:Zv7×Int×Unit) (ns:List (Zv11×(Option (List Nat)))) (n:Nat):Option (Zv5×(List (Zv11×(Option (List Nat))))×Unit):=fixW qB (x,(),ns,n,())
def qE (budget:Int) (x5:Zv42×((List (Zv11×(Option (List Nat))))×Zv6×Unit)):Option ((Zv42×((List (Zv11×(Option (List Nat))))×Zv6×Unit)) ⊕ (Zv42×((List (Zv11×(Option (List Nat))))×Zv6×Unit))) :=
  req (Nat.blt 0 (([]:List (Zv11×(Option (List Nat)))).length+1)) (req (imp (((ndP x5.2.1 (([],(([],([],())),((0:Int),((0:Int),())))),((0:Int),((0:Int),(false,())))) (([]:List (Zv11×(Option (List Nat)))).length+1)).2).1 !=0) (Nat.blt 0 (([]:List (Zv11×(Option (List Nat)))).length+1))) (bif (((((ndP x5.2.1 (([],(([],([],())),((0:Int),((0:Int),())))),((0:Int),((0:Int),(false,())))) (([]:List (Zv11×(Option (List Nat)))).length+1)).2).1 !=0)&&((((ndP x5.2.1 (([],(([],([],())),((0:Int),((0:Int),())))),((0:Int),((0:Int),(false,())))) (([]:List (Zv11×(Option (List Nat)))).length+1)).2).2).1 !=0))&&(decide (x5.1.1<budget))) then(Option.bind (qah ((x5.2.2.1.1,(x5.2.2.1.2.1,(x5.2.2.1.2.2.1,(x5.2.2.1.2.2.2.1,(x5.2.2.1.2.2.2.2.1,(x5.2.2.1.2.2.2.2.2.1,(x5.2.2.1.2.2.2.2.2.2.1,(x5.2.2.1.2.2.2.2.2.2.2.1,(x5.2.2.1.2.2.2.2.2.2.2.2.1,(x5.2.2.1.2.2.2.2.2.2.2.2.2.1,(x5.2.2.1.2.2.2.2.2.2.2.2.2.2.1,()))))))))))),x5.2.2.1.2.2.2.2.2.2.2.2.2.2.2) x5.2.1 (([]:List (Zv11×(Option (List Nat)))).length+1)) fun r6 =>
  some (Sum.inl (((w64 (x5.1.1+1)),()),(r6.2.1,(r6.1.1.1,(r6.1.1.2.1,(r6.1.1.2.2.1,(r6.1.1.2.2.2.1,(r6.1.1.2.2.2.2.1,(r6.1.1.2.2.2.2.2.1,(r6.1.1.2.2.2.2.2.2.1,(r6.1.1.2.2.2.2.2.2.2.1,(r6.1.1.2.2.2.2.2.2.2.2.1,(r6.1.1.2.2.2.2.2.2.2.2.2.1,(r6.1.1.2.2.2.2.2.2.2.2.2.2.1,r6.1.2))))))))))),()))))
  else some (Sum.inr ((x5.1.1,()),(x5.2.1,x5.2.2.1,())))))
def qaa (r:ByteArray×Int×Int×Zv15×Zv43×Bool×Bool×Zv27×Int×Int×Int×Unit) (p:Zv43×Zv31×Int×Int×Unit) (budget:Int):Option (Zv33×Int×Unit) :=
  Option.bind (Option.bind (qbV r p) fun r1 =>
  bif (r1 !=0) then some (((0:Nat),(0:Int),r1,()),(([]:List (Zv11×(Option (List Nat)))),()))
  else bif ((decide (budget<0))||(decide (budget>5000))) then some (((0:Nat),(0:Int),(1:Int),()),(([]:List (Zv11×(Option (List Nat)))),()))
  else Option.bind (qci p) fun r2 =>
  Option.bind (some (addP ([]:List (Zv11×(Option (List Nat)))) ((r2.1,((r2.2.1.1,(r2.2.1.2.1,())),r2.2.2)),((1:Int),((1:Int),(false,())))))) fun ns3 =>
  Option.bind (qav r (r2.1,((r2.2.1.1,(r2.2.1.2.1,())),r2.2.2))) fun r4 =>
  bif (r4==0) then(Option.bind (iterW (qE budget) (((0:Int),()),(ns3,(r.1,(r.2.1,(r.2.2.1,(r.2.2.2.1,(r.2.2.2.2.1,(r.2.2.2.2.2.1,(r.2.2.2.2.2.2.1,(r.2.2.2.2.2.2.2.1,(r.2.2.2.2.2.2.2.2.1,(r.2.2.2.2.2.2.2.2.2.1,(r.2.2.2.2.2.2.2.2.2.2.1,(p.2.2.1,())))))))))))),()))) fun x7 =>
  some (((([]:List (Zv11×(Option (List Nat)))).length+1),x7.1.1,(0:Int),()),(x7.2.1,())))
  else bif (r4==(w64 ((1:Int)+p.2.2.1))) then(req (Nat.blt 0 (([]:List (Zv11×(Option (List Nat)))).length+1)) (Option.bind (some (ndP ns3 (([],(([],([],())),((0:Int),((0:Int),())))),((0:Int),((0:Int),(false,())))) (([]:List (Zv11×(Option (List Nat)))).length+1))) fun e8 =>
  Option.bind (some (setP ns3 (([],(([],([],())),((0:Int),((0:Int),())))),((0:Int),((0:Int),(false,())))) (([]:List (Zv11×(Option (List Nat)))).length+1) (e8.1,((0:Int),e8.2.2)))) fun ns9 =>
  req (Nat.blt 0 (([]:List (Zv11×(Option (List Nat)))).length+1)) (Option.bind (some (ndP ns9 (([],(([],([],())),((0:Int),((0:Int),())))),((0:Int),((0:Int),(false,())))) (([]:List (Zv11×(Option (List Nat)))).length+1))) fun e10 =>
  Option.bind (some (setP ns9 (([],(([],([],())),((0:Int),((0:Int),())))),((0:Int),((0:Int),(false,())))) (([]:List (Zv11×(Option (List Nat)))).length+1) (e10.1,(e10.2.1,((1099511627776:Int),e10.2.2.2))))) fun ns11 =>
  Option.bind (iterW (qE budget) (((0:Int),()),(ns11,(r.1,(r.2.1,(r.2.2.1,(r.2.2.2.1,(r.2.2.2.2.1,(r.2.2.2.2.2.1,(r.2.2.2.2.2.2.1,(r.2.2.2.2.2.2.2.1,(r.2.2.2.2.2.2.2.2.1,(r.2.2.2.2.2.2.2.2.2.1,(r.2.2.2.2.2.2.2.2.2.2.1,(p.2.2.1,())))))))))))),()))) fun x14 =>
  some (((([]:List (Zv11×(Option (List Nat)))).length+1),x14.1.1,(0:Int),()),(x14.2.1,())))))
  else req (Nat.blt 0 (([]:List (Zv11×(Option (List Nat)))).length+1)) (Option.bind (some (ndP ns3 (([],(([],([],())),((0:Int),((0:Int),())))),((0:Int),((0:Int),(false,())))) (([]:List (Zv11×(Option (List Nat)))).length+1))) fun e15 =>
  Option.bind (some (setP ns3 (([],(([],([],())),((0:Int),((0:Int),())))),((0:Int),((0:Int),(false,())))) (([]:List (Zv11×(Option (List Nat)))).length+1) (e15.1,((1099511627776:Int),e15.2.2)))) fun ns16 =>
  req (Nat.blt 0 (([]:List (Zv11×(Option (List Nat)))).length+1)) (Option.bind (some (ndP ns16 (([],(([],([],())),((0:Int),((0:Int),())))),((0:Int),((0:Int),(false,())))) (([]:List (Zv11×(Option (List Nat)))).length+1))) fun e17 =>
  Option.bind (some (setP ns16 (([],(([],([],())),((0:Int),((0:Int),())))),((0:Int),((0:Int),(false,())))) (([]:List (Zv11×(Option (List Nat)))).length+1) (e17.1,(e17.2.1,((0:Int),e17.2.2.2))))) fun ns18 =>
  Option.bind (iterW (qE budget) (((0:Int),()),(ns18,(r.1,(r.2.1,(r.2.2.1,(r.2.2.2.1,(r.2.2.2.2.1,(r.2.2.2.2.2.1,(r.2.2.2.2.2.2.1,(r.2.2.2.2.2.2.2.1,(r.2.2.2.2.2.2.2.2.1,(r.2.2.2.2.2.2.2.2.2.1,(r.2.2.2.2.2.2.2.2.2.2.1,(p.2.2.1,())))))))))))),()))) fun x21 =>
  some (((([]:List (Zv11×(Option (List Nat)))).length+1),x21.1.1,(0:Int),()),(x21.2.1,()))))) fun x22 =>
  bif (x22.1.2.2.1 !=0) then some (((0:Int),((0:Int),((0:Int),((0:Int),())))),(x22.1.2.2.1,()))
  else Option.bind (req (Nat.blt 0 x22.1.1) (req (Nat.blt 0 x22.1.1) (agree (req (Nat.blt 0 x22.1.1) (bif (((ndP x22.2.1 (([],(([],([],())),((0:Int),((0:Int),())))),((0:Int),((0:Int),(false,())))) x22.1.1).2).1==0) then some (((0:Int),()),(((0:Int),(((ndP x22.2.1 (([],(([],([],())),((0:Int),((0:Int),())))),((0:Int),((0:Int),(false,())))) x22.1.1).2).1,((((ndP x22.2.1 (([],(([],([],())),((0:Int),((0:Int),())))),((0:Int),((0:Int),(false,())))) x22.1.1).2).2).1,(x22.1.2.1,())))),()))
  else req (Nat.blt 0 x22.1.1) (bif ((((ndP x22.2.1 (([],(([],([],())),((0:Int),((0:Int),())))),((0:Int),((0:Int),(false,())))) x22.1.1).2).2).1==0) then some (((0:Int),()),(((1:Int),(((ndP x22.2.1 (([],(([],([],())),((0:Int),((0:Int),())))),((0:Int),((0:Int),(false,())))) x22.1.1).2).1,((((ndP x22.2.1 (([],(([],([],())),((0:Int),((0:Int),())))),((0:Int),((0:Int),(false,())))) x22.1.1).2).2).1,(x22.1.2.1,())))),()))
  else some (((0:Int),()),(((2:Int),(((ndP x22.2.1 (([],(([],([],())),((0:Int),((0:Int),())))),((0:Int),((0:Int),(false,())))) x22.1.1).2).1,((((ndP x22.2.1 (([],(([],([],())),((0:Int),((0:Int),())))),((0:Int),((0:Int),(false,())))) x22.1.1).2).2).1,(x22.1.2.1,())))),()))))) (agree (agree (req (Nat.blt 0 x22.1.1) (bif (((ndP x22.2.1 (([],(([],([],())),((0:Int),((0:Int),())))),((0:Int),((0:Int),(false,())))) x22.1.1).2).1==0) then some (((0:Int),()),(((0:Int),(((ndP x22.2.1 (([],(([],([],())),((0:Int),((0:Int),())))),((0:Int),((0:Int),(false,())))) x22.1.1).2).1,((((ndP x22.2.1 (([],(([],([],())),((0:Int),((0:Int),())))),((0:Int),((0:Int),(false,())))) x22.1.1).2).2).1,(x22.1.2.1,())))),()))
  else req (Nat.blt 0 x22.1.1) (bif ((((ndP x22.2.1 (([],(([],([],())),((0:Int),((0:Int),())))),((0:Int),((0:Int),(false,())))) x22.1.1).2).2).1==0) then some (((0:Int),()),(((1:Int),(((ndP x22.2.1 (([],(([],([],())),((0:Int),((0:Int),())))),((0:Int),((0:Int),(false,())))) x22.1.1).2).1,((((ndP x22.2.1 (([],(([],([],())),((0:Int),((0:Int),())))),((0:Int),((0:Int),(false,())))) x22.1.1).2).2).1,(x22.1.2.1,())))),()))
  else some (((0:Int),()),(((2:Int),(((ndP x22.2.1 (([],(([],([],())),((0:Int),((0:Int),())))),((0:Int),((0:Int),(false,())))) x22.1.1).2).1,((((ndP x22.2.1 (([],(([],([],())),((0:Int),((0:Int),())))),((0:Int),((0:Int),(false,())))) x22.1.1).2).2).1,(x22.1.2.1,())))),()))))) (req (Nat.blt 0 x22.1.1) (bif (((ndP x22.2.1 (([],(([],([],())),((0:Int),((0:Int),())))),((0:Int),((0:Int),(false,())))) x22.1.1).2).1==0) then some (((0:Int),()),(((0:Int),(((ndP x22.2.1 (([],(([],([],())),((0:Int),((0:Int),())))),((0:Int),((0:Int),(false,())))) x22.1.1).2).1,((((ndP x22.2.1 (([],(([],([],())),((0:Int),((0:Int),())))),((0:Int),((0:Int),(false,())))) x22.1.1).2).2).1,(x22.1.2.1,())))),()))
  else req (Nat.blt 0 x22.1.1) (bif ((((ndP x22.2.1 (([],(([],([],())),((0:Int),((0:Int),())))),((0:Int),((0:Int),(false,())))) x22.1.1).2).2).1==0) then some (((0:Int),()),(((1:Int),(((ndP x22.2.1 (([],(([],([],())),((0:Int),((0:Int),())))),((0:Int),((0:Int),(false,())))) x22.1.1).2).1,((((ndP x22.2.1 (([],(([],([],())),((0:Int),((0:Int),())))),((0:Int),((0:Int),(false,())))) x22.1.1).2).2).1,(x22.1.2.1,())))),()))
  else some (((0:Int),()),(((2:Int),(((ndP x22.2.1 (([],(([],([],())),((0:Int),((0:Int),())))),((0:Int),((0:Int),(false,())))) x22.1.1).2).1,((((ndP x22.2.1 (([],(([],([],())),((0:Int),((0:Int),())))),((0:Int),((0:Int),(false,())))) x22.1.1).2).2).1,(x22.1.2.1,())))),())))))) (agree (req (Nat.blt 0 x22.1.1) (bif (((ndP x22.2.1 (([],(([],([],())),((0:Int),((0:Int),())))),((0:Int),((0:Int),(false,())))) x22.1.1).2).1==0) then some (((0:Int),()),(((0:Int),(((ndP x22.2.1 (([],(([],([],())),((0:Int),((0:Int),())))),((0:Int),((0:Int),(false,())))) x22.1.1).2).1,((((ndP x22.2.1 (([],(([],([],())),((0:Int),((0:Int),())))),((0:Int),((0:Int),(false,())))) x22.1.1).2).2).1,(x22.1.2.1,())))),()))
  else req (Nat.blt 0 x22.1.1) (bif ((((ndP x22.2.1 (([],(([],([],())),((0:Int),((0:Int),())))),((0:Int),((0:Int),(false,())))) x22.1.1).2).2).1==0) then some (((0:Int),()),(((1:Int),(((ndP x22.2.1 (([],(([],([],())),((0:Int),((0:Int),())))),((0:Int),((0:Int),(false,())))) x22.1.1).2).1,((((ndP x22.2.1 (([],(([],([],())),((0:Int),((0:Int),())))),((0:Int),((0:Int),(false,())))) x22.1.1).2).2).1,(x22.1.2.1,())))),()))
  else some (((0:Int),()),(((2:Int),(((ndP x22.2.1 (([],(([],([],())),((0:Int),((0:Int),())))),((0:Int),((0:Int),(false,())))) x22.1.1).2).1,((((ndP x22.2.1 (([],(([],([],())),((0:Int),((0:Int),())))),((0:Int),((0:Int),(false,())))) x22.1.1).2).2).1,(x22.1.2.1,())))),()))))) (req (Nat.blt 0 x22.1.1) (bif (((ndP x22.2.1 (([],(([],([],())),((0:Int),((0:Int),())))),((0:Int),((0:Int),(false,())))) x22.1.1).2).1==0) then some (((0:Int),()),(((0:Int),(((ndP x22.2.1 (([],(([],([],())),((0:Int),((0:Int),())))),((0:Int),((0:Int),(false,())))) x22.1.1).2).1,((((ndP x22.2.1 (([],(([],([],())),((0:Int),((0:Int),())))),((0:Int),((0:Int),(false,())))) x22.1.1).2).2).1,(x22.1.2.1,())))),()))
  else req (Nat.blt 0 x22.1.1) (bif ((((ndP x22.2.1 (([],(([],([],())),((0:Int),((0:Int),())))),((0:Int),((0:Int),(false,())))) x22.1.1).2).2).1==0) then some (((0:Int),()),(((1:Int),(((ndP x22.2.1 (([],(([],([],())),((0:Int),((0:Int),())))),((0:Int),((0:Int),(false,())))) x22.1.1).2).1,((((ndP x22.2.1 (([],(([],([],())),((0:Int),((0:Int),())))),((0:Int),((0:Int),(false,())))) x22.1.1).2).2).1,(x22.1.2.1,())))),()))
  else some (((0:Int),()),(((2:Int),(((ndP x22.2.1 (([],(([],([],())),((0:Int),((0:Int),())))),((0:Int),((0:Int),(false,())))) x22.1.1).2).1,((((ndP x22.2.1 (([],(([],([],())),((0:Int),((0:Int),())))),((0:Int),((0:Int),(false,())))) x22.1.1).2).2).1,(x22.1.2.1,())))),())))))))))) fun x23 =>
  some (x23.2.1,(x23.1.1,()))
def qaY (budget:Int) (x5:Zv42×((List (Zv11×(Option (List Nat))))×Zv6×Unit)):Option ((Zv42×((List (Zv11×(Option (List Nat))))×Zv6×Unit)) ⊕ (Zv42×((List (Zv11×(Option (List Nat))))×Zv6×Unit))) :=
  req (Nat.blt 0 (([]:List (Zv11×(Option (List Nat)))).length+1)) (req (imp (((ndP x5.2.1 (([],(([],([],())),((0:Int),((0:Int),())))),((0:Int),((0:Int),(false,())))) (([]:List (Zv11×(Option (List Nat)))).length+1)).2).1 !=0) (Nat.blt 0 (([]:List (Zv11×(Option (List Nat)))).length+1))) (bif (((((ndP x5.2.1 (([],(([],([],())),((0:Int),((0:Int),())))),((0:Int),((0:Int),(false,())))) (([]:List (Zv11×(Option (List Nat)))).length+1)).2).1 !=0)&&((((ndP x5.2.1 (([],(([],([],())),((0:Int),((0:Int),())))),((0:Int),((0:Int),(false,())))) (([]:List (Zv11×(Option (List Nat)))).length+1)).2).2).1 !=0))&&(decide (x5.1.1<budget))) then(Option.bind (qah ((x5.2.2.1.1,(x5.2.2.1.2.1,(x5.2.2.1.2.2.1,(x5.2.2.1.2.2.2.1,(x5.2.2.1.2.2.2.2.1,(x5.2.2.1.2.2.2.2.2.1,(x5.2.2.1.2.2.2.2.2.2.1,(x5.2.2.1.2.2.2.2.2.2.2.1,(x5.2.2.1.2.2.2.2.2.2.2.2.1,(x5.2.2.1.2.2.2.2.2.2.2.2.2.1,(x5.2.2.1.2.2.2.2.2.2.2.2.2.2.1,()))))))))))),x5.2.2.1.2.2.2.2.2.2.2.2.2.2.2) x5.2.1 (([]:List (Zv11×(Option (List Nat)))).length+1)) fun r6 =>
  some (Sum.inl (((w64 (x5.1.1+1)),()),(r6.2.1,(r6.1.1.1,(r6.1.1.2.1,(r6.1.1.2.2.1,(r6.1.1.2.2.2.1,(r6.1.1.2.2.2.2.1,(r6.1.1.2.2.2.2.2.1,(r6.1.1.2.2.2.2.2.2.1,(r6.1.1.2.2.2.2.2.2.2.1,(r6.1.1.2.2.2.2.2.2.2.2.1,(r6.1.1.2.2.2.2.2.2.2.2.2.1,(r6.1.1.2.2.2.2.2.2.2.2.2.2.1,r6.1.2))))))))))),()))))
  else some (Sum.inr ((x5.1.1,()),(x5.2.1,x5.2.2.1,())))))
def qw (r24:List Zv36) (x22:(Nat×Int×Unit)×((List (Zv11×(Option (List Nat))))×Unit)) (x25:Zv42×Zv30):Option ((Zv42×Zv30) ⊕ (Zv24 ⊕ (Zv24 ⊕ Zv26))) :=
  bif (decide (x25.1.1<((r24.length:Nat):Int))) then(req (inb x25.1.1 r24.length) (req (Nat.blt 0 x22.1.1) (req (imp (decide (x25.1.1<(((kdP x22.2.1 (([],(([],([],())),((0:Int),((0:Int),())))),((0:Int),((0:Int),(false,())))) x22.1.1).length:Nat):Int))) (Nat.blt 0 x22.1.1)) (req (imp (decide (x25.1.1<(((kdP x22.2.1 (([],(([],([],())),((0:Int),((0:Int),())))),((0:Int),((0:Int),(false,())))) x22.1.1).length:Nat):Int))) (inb x25.1.1 (kdP x22.2.1 (([],(([],([],())),((0:Int),((0:Int),())))),((0:Int),((0:Int),(false,())))) x22.1.1).length)) (req (imp (decide (x25.1.1<(((kdP x22.2.1 (([],(([],([],())),((0:Int),((0:Int),())))),((0:Int),((0:Int),(false,())))) x22.1.1).length:Nat):Int))) (Nat.blt 0 (getD' (kdP x22.2.1 (([],(([],([],())),((0:Int),((0:Int),())))),((0:Int),((0:Int),(false,())))) x22.1.1) ((x25.1.1).toNat) 0))) (bif ((decide (x25.1.1<(((kdP x22.2.1 (([],(([],([],())),((0:Int),((0:Int),())))),((0:Int),((0:Int),(false,())))) x22.1.1).length:Nat):Int)))&&(((ndP x22.2.1 (([],(([],([],())),((0:Int),((0:Int),())))),((0:Int),((0:Int),(false,())))) (getD' (kdP x22.2.1 (([],(([],([],())),((0:Int),((0:Int),())))),((0:Int),((0:Int),(false,())))) x22.1.1) ((x25.1.1).toNat) 0)).2).1==0)) then some (Sum.inr (Sum.inr (Sum.inr ((getD' r24 ((x25.1.1).toNat) ((0:Int),((0:Int),((0:Int),())))),((0:Int),())))))
  else some (Sum.inl (((w64 (x25.1.1+1)),()),(x25.2.1,())))))))))
  else some (Sum.inr (Sum.inl ((),(x25.2.1,()))))
def qI (r:ByteArray×Int×Int×Zv15×Zv43×Bool×Bool×Zv27×Int×Int×Int×Unit) (p:Zv43×Zv31×Int×Int×Unit) (budget:Int):Option Zv26 :=
  Option.bind (Option.bind (qbV r p) fun r1 =>
  bif (r1 !=0) then some (((0:Nat),r1,()),(([]:List (Zv11×(Option (List Nat)))),()))
  else bif ((decide (budget<0))||(decide (budget>5000))) then some (((0:Nat),(1:Int),()),(([]:List (Zv11×(Option (List Nat)))),()))
  else Option.bind (qci p) fun r2 =>
  Option.bind (some (addP ([]:List (Zv11×(Option (List Nat)))) ((r2.1,((r2.2.1.1,(r2.2.1.2.1,())),r2.2.2)),((1:Int),((1:Int),(false,())))))) fun ns3 =>
  Option.bind (qav r (r2.1,((r2.2.1.1,(r2.2.1.2.1,())),r2.2.2))) fun r4 =>
  bif (r4==0) then(Option.bind (iterW (qaY budget) (((0:Int),()),(ns3,(r.1,(r.2.1,(r.2.2.1,(r.2.2.2.1,(r.2.2.2.2.1,(r.2.2.2.2.2.1,(r.2.2.2.2.2.2.1,(r.2.2.2.2.2.2.2.1,(r.2.2.2.2.2.2.2.2.1,(r.2.2.2.2.2.2.2.2.2.1,(r.2.2.2.2.2.2.2.2.2.2.1,(p.2.2.1,())))))))))))),()))) fun x7 =>
  some (((([]:List (Zv11×(Option (List Nat)))).length+1),(0:Int),()),(x7.2.1,())))
  else bif (r4==(w64 ((1:Int)+p.2.2.1))) then(req (Nat.blt 0 (([]:List (Zv11×(Option (List Nat)))).length+1)) (Option.bind (some (ndP ns3 (([],(([],([],())),((0:Int),((0:Int),())))),((0:Int),((0:Int),(false,())))) (([]:List (Zv11×(Option (List Nat)))).length+1))) fun e8 =>
  Option.bind (some (setP ns3 (([],(([],([],())),((0:Int),((0:Int),())))),((0:Int),((0:Int),(false,())))) (([]:List (Zv11×(Option (List Nat)))).length+1) (e8.1,((0:Int),e8.2.2)))) fun ns9 =>
  req (Nat.blt 0 (([]:List (Zv11×(Option (List Nat)))).length+1)) (Option.bind (some (ndP ns9 (([],(([],([],())),((0:Int),((0:Int),())))),((0:Int),((0:Int),(false,())))) (([]:List (Zv11×(Option (List Nat)))).length+1))) fun e10 =>
  Option.bind (some (setP ns9 (([],(([],([],())),((0:Int),((0:Int),())))),((0:Int),((0:Int),(false,())))) (([]:List (Zv11×(Option (List Nat)))).length+1) (e10.1,(e10.2.1,((1099511627776:Int),e10.2.2.2))))) fun ns11 =>
  Option.bind (iterW (qaY budget) (((0:Int),()),(ns11,(r.1,(r.2.1,(r.2.2.1,(r.2.2.2.1,(r.2.2.2.2.1,(r.2.2.2.2.2.1,(r.2.2.2.2.2.2.1,(r.2.2.2.2.2.2.2.1,(r.2.2.2.2.2.2.2.2.1,(r.2.2.2.2.2.2.2.2.2.1,(r.2.2.2.2.2.2.2.2.2.2.1,(p.2.2.1,())))))))))))),()))) fun x14 =>
  some (((([]:List (Zv11×(Option (List Nat)))).length+1),(0:Int),()),(x14.2.1,())))))
  else req (Nat.blt 0 (([]:List (Zv11×(Option (List Nat)))).length+1)) (Option.bind (some (ndP ns3 (([],(([],([],())),((0:Int),((0:Int),())))),((0:Int),((0:Int),(false,())))) (([]:List (Zv11×(Option (List Nat)))).length+1))) fun e15 =>
  Option.bind (some (setP ns3 (([],(([],([],())),((0:Int),((0:Int),())))),((0:Int),((0:Int),(false,())))) (([]:List (Zv11×(Option (List Nat)))).length+1) (e15.1,((1099511627776:Int),e15.2.2)))) fun ns16 =>
  req (Nat.blt 0 (([]:List (Zv11×(Option (List Nat)))).length+1)) (Option.bind (some (ndP ns16 (([],(([],([],())),((0:Int),((0:Int),())))),((0:Int),((0:Int),(false,())))) (([]:List (Zv11×(Option (List Nat)))).length+1))) fun e17 =>
  Option.bind (some (setP ns16 (([],(([],([],())),((0:Int),((0:Int),())))),((0:Int),((0:Int),(false,())))) (([]:List (Zv11×(Option (List Nat)))).length+1) (e17.1,(e17.2.1,((0:Int),e17.2.2.2))))) fun ns18 =>
  Option.bind (iterW (qaY budget) (((0:Int),()),(ns18,(r.1,(r.2.1,(r.2.2.1,(r.2.2.2.1,(r.2.2.2.2.1,(r.2.2.2.2.2.1,(r.2.2.2.2.2.2.1,(r.2.2.2.2.2.2.2.1,(r.2.2.2.2.2.2.2.2.1,(r.2.2.2.2.2.2.2.2.2.1,(r.2.2.2.2.2.2.2.2.2.2.1,(p.2.2.1,())))))))))))),()))) fun x21 =>
  some (((([]:List (Zv11×(Option (List Nat)))).length+1),(0:Int),()),(x21.2.1,()))))) fun x22 =>
  bif (x22.1.2.1 !=0) then some (((0:Int),((0:Int),((0:Int),()))),(x22.1.2.1,()))
  else Option.bind (req (Nat.blt 0 x22.1.1) (bif (((ndP x22.2.1 (([],(([],([],())),((0:Int),((0:Int),())))),((0:Int),((0:Int),(false,())))) x22.1.1).2).1==0) then some ((true,()),())
  else req (Nat.blt 0 x22.1.1) (bif ((((ndP x22.2.1 (([],(([],([],())),((0:Int),((0:Int),())))),((0:Int),((0:Int),(false,())))) x22.1.1).2).2).1==0) then some ((false,()),())
  else some ((false,()),())))) fun x23 =>
  Option.bind (α:=Zv24 ⊕ Zv26) (bif x23.1.1 then(Option.bind (qbo r p) fun r24 =>
  Option.bind (α:=Zv24 ⊕ (Zv24 ⊕ Zv26)) (iterW (qw r24 x22) (((0:Int),()),(((0:Int),((0:Int),((0:Int),()))),()))) (Sum.elim (fun x26 =>
  some (Sum.inl ((),(x26.2.1,())))) some))
  else some (Sum.inl ((),(((0:Int),((0:Int),((0:Int),()))),())))) (Sum.elim (fun x27 =>
  some (((0:Int),((0:Int),((0:Int),()))),((8:Int),()))) some)
def qv (d2:Zv13×Zv43×Bool×Unit) (self:Zv2→Option Zv40) (x:Zv7×Int×Zv9×Int×Unit) (x3:Zv36×(Unit)):Option (Zv29 ⊕ Zv35) :=
  bif (decide (x3.1.2.2.1<((d2.2.1.length:Nat):Int))) then(Option.bind (at? d2.2.1 x3.1.2.2.1) fun d4 =>
  Option.bind (self (x,d4,())) fun r5 =>
  Option.bind (bif (d2.1.1.2.2.1 !=x.2.1) then some ((r5.2.1,r5.1,()),())
  else some ((r5.1,r5.2.1,()),())) fun x6 =>
  Option.bind (bif (decide (x6.1.1<x3.1.1)) then some ((x6.1.1,()),())
  else some ((x3.1.1,()),())) fun x7 =>
  Option.bind (bif (decide ((w64 (x3.1.2.1+x6.1.2.1))>1099511627776)) then some (((1099511627776:Int),()),())
  else some (((w64 (x3.1.2.1+x6.1.2.1)),()),())) fun x8 =>
  some (Sum.inl ((x7.1.1,x8.1.1,(w64 (x3.1.2.2.1+1)),()),())))
  else some (Sum.inr ((x3.1.1,x3.1.2.1,()),()))
def qL (self:Zv2→Option Zv40) (x:Zv7×Int×Zv9×Int×Unit) (k:Int):Option Zv40 :=
  Option.bind (at? x.2.2.1 k) fun d2 =>
  bif (d2.1.2.1==0) then(bif (!d2.2.2.1) then some ((1:Int),((1:Int),()))
  else Option.bind (iterW (qv d2 self x) (((1099511627776:Int),(0:Int),(0:Int),()),())) fun x9 =>
  bif (d2.1.1.2.2.1 !=x.2.1) then some (x9.1.2.1,(x9.1.1,()))
  else some (x9.1.1,(x9.1.2.1,())))
  else bif (d2.1.2.1==(w64 ((1:Int)+x.2.1))) then some ((0:Int),((1099511627776:Int),()))
  else some ((1099511627776:Int),((0:Int),()))
def qK (self:Zv2→Option Zv40) (x:Zv4×Int×Unit):Option Zv40:=qL self x.1 x.2.1
def qx (x:Zv7×Int×Zv9×Int×Unit) (k:Int):Option Zv40:=fixW qK (x,k,())
def qW (x:Zv7×Int×Zv8×Int×Unit) (x4:Zv42×(Unit)) (x5:Zv36×(Unit)):Option (Zv29 ⊕ Zv38) :=
  bif (decide (x5.1.2.2.1<(((((getD' x.2.2.1.1 ((x4.1.1).toNat) ((([],(([],([],())),((0:Int),((0:Int),())))),((0:Int),())),([],(false,())))).2).1).length:Nat):Int))) then(Option.bind (at? (((getD' x.2.2.1.1 ((x4.1.1).toNat) ((([],(([],([],())),((0:Int),((0:Int),())))),((0:Int),())),([],(false,())))).2).1) x5.1.2.2.1) fun d6 =>
  Option.bind (qx (x.1,(x.2.1,(x.2.2.1.1,x.2.2.2))) d6) fun r7 =>
  req (inb x4.1.1 x.2.2.1.1.length) (Option.bind (bif ((((((getD' x.2.2.1.1 ((x4.1.1).toNat) ((([],(([],([],())),((0:Int),((0:Int),())))),((0:Int),())),([],(false,())))).1).1).2).2).1 !=x.2.1) then some ((r7.2.1,()),())
  else some ((r7.1,()),())) fun x8 =>
  Option.bind (bif ((decide (x5.1.1<0))||(decide (x8.1.1<x5.1.2.1))) then some ((d6,x8.1.1,()),())
  else some ((x5.1.1,x5.1.2.1,()),())) fun x9 =>
  some (Sum.inl ((x9.1.1,x9.1.2.1,(w64 (x5.1.2.2.1+1)),()),()))))
  else some (Sum.inr ((x5.1.1,()),()))
def qN (x:Zv7×Int×Zv8×Int×Unit) (x4:Zv42×(Unit)):Option (Zv38 ⊕ Zv38) :=
  req (inb x4.1.1 x.2.2.1.1.length) (bif (((getD' x.2.2.1.1 ((x4.1.1).toNat) ((([],(([],([],())),((0:Int),((0:Int),())))),((0:Int),())),([],(false,())))).2).2).1 then(Option.bind (req (inb x4.1.1 x.2.2.1.1.length) (Option.bind (iterW (qW x x4) (((-1:Int),(0:Int),(0:Int),()),())) fun x10 =>
  some ((x10.1.1,()),()))) fun x11 =>
  some (Sum.inl ((x11.1.1,()),())))
  else some (Sum.inr ((x4.1.1,()),())))
def qO (r13:List Zv36) (x12:Zv42×(Unit)) (x:Zv7×Int×Zv8×Int×Unit) (x14:Zv42×((ByteArray×Int×Int×Zv15×Zv43×Bool×Bool×Zv27×Int×Int×Int×Int×(List Zv10×(Nat×Option Zv43))×Int×Unit)×Unit)):Option ((Zv42×((ByteArray×Int×Int×Zv15×Zv43×Bool×Bool×Zv27×Int×Int×Int×Int×(List Zv10×(Nat×Option Zv43))×Int×Unit)×Unit)) ⊕ ((Unit)×((ByteArray×Int×Int×Zv15×Zv43×Bool×Bool×Zv27×Int×Int×Int×Int×(List Zv10×(Nat×Option Zv43))×Int×Unit)×Unit))) :=
  bif (decide (x14.1.1<((r13.length:Nat):Int))) then(req (inb x14.1.1 r13.length) (Option.bind (req (inb x12.1.1 x14.2.1.2.2.2.2.2.2.2.2.2.2.2.2.1.1.length) (req (Nat.beq ((x12.1.1).toNat) x14.2.1.2.2.2.2.2.2.2.2.2.2.2.2.1.2.1) (agree (req (room ((x14.2.1.2.2.2.2.2.2.2.2.2.2.2.2.1.2.2.getD []).length+([((x14.2.1.2.2.2.2.2.2.2.2.2.2.2.2.1.1.length:Nat):Int)]).length) 8) (req (inb x12.1.1 x14.2.1.2.2.2.2.2.2.2.2.2.2.2.2.1.1.length) (req (Nat.beq ((x12.1.1).toNat) x14.2.1.2.2.2.2.2.2.2.2.2.2.2.2.1.2.1) (some ((),((x14.2.1.1,(x14.2.1.2.1,(x14.2.1.2.2.1,(x14.2.1.2.2.2.1,(x14.2.1.2.2.2.2.1,(x14.2.1.2.2.2.2.2.1,(x14.2.1.2.2.2.2.2.2.1,(x14.2.1.2.2.2.2.2.2.2.1,(x14.2.1.2.2.2.2.2.2.2.2.1,(x14.2.1.2.2.2.2.2.2.2.2.2.1,(x14.2.1.2.2.2.2.2.2.2.2.2.2.1,(x14.2.1.2.2.2.2.2.2.2.2.2.2.2.1,((x14.2.1.2.2.2.2.2.2.2.2.2.2.2.2.1.1,(x14.2.1.2.2.2.2.2.2.2.2.2.2.2.2.1.2.1,(some ((x14.2.1.2.2.2.2.2.2.2.2.2.2.2.2.1.2.2.getD [])++([((x14.2.1.2.2.2.2.2.2.2.2.2.2.2.2.1.1.length:Nat):Int)]))))),x14.2.1.2.2.2.2.2.2.2.2.2.2.2.2.2))))))))))))),())))))) (agree (req (room ((x14.2.1.2.2.2.2.2.2.2.2.2.2.2.2.1.2.2.getD []).length+([((x14.2.1.2.2.2.2.2.2.2.2.2.2.2.2.1.1.length:Nat):Int)]).length) 8) (req (inb x12.1.1 x14.2.1.2.2.2.2.2.2.2.2.2.2.2.2.1.1.length) (req (Nat.beq ((x12.1.1).toNat) x14.2.1.2.2.2.2.2.2.2.2.2.2.2.2.1.2.1) (some ((),((x14.2.1.1,(x14.2.1.2.1,(x14.2.1.2.2.1,(x14.2.1.2.2.2.1,(x14.2.1.2.2.2.2.1,(x14.2.1.2.2.2.2.2.1,(x14.2.1.2.2.2.2.2.2.1,(x14.2.1.2.2.2.2.2.2.2.1,(x14.2.1.2.2.2.2.2.2.2.2.1,(x14.2.1.2.2.2.2.2.2.2.2.2.1,(x14.2.1.2.2.2.2.2.2.2.2.2.2.1,(x14.2.1.2.2.2.2.2.2.2.2.2.2.2.1,((x14.2.1.2.2.2.2.2.2.2.2.2.2.2.2.1.1,(x14.2.1.2.2.2.2.2.2.2.2.2.2.2.2.1.2.1,(some ((x14.2.1.2.2.2.2.2.2.2.2.2.2.2.2.1.2.2.getD [])++([((x14.2.1.2.2.2.2.2.2.2.2.2.2.2.2.1.1.length:Nat):Int)]))))),x14.2.1.2.2.2.2.2.2.2.2.2.2.2.2.2))))))))))))),())))))) (req (room ((x14.2.1.2.2.2.2.2.2.2.2.2.2.2.2.1.2.2.getD []).length+([((x14.2.1.2.2.2.2.2.2.2.2.2.2.2.2.1.1.length:Nat):Int)]).length) 8) (req (inb x12.1.1 x14.2.1.2.2.2.2.2.2.2.2.2.2.2.2.1.1.length) (req (Nat.beq ((x12.1.1).toNat) x14.2.1.2.2.2.2.2.2.2.2.2.2.2.2.1.2.1) (some ((),((x14.2.1.1,(x14.2.1.2.1,(x14.2.1.2.2.1,(x14.2.1.2.2.2.1,(x14.2.1.2.2.2.2.1,(x14.2.1.2.2.2.2.2.1,(x14.2.1.2.2.2.2.2.2.1,(x14.2.1.2.2.2.2.2.2.2.1,(x14.2.1.2.2.2.2.2.2.2.2.1,(x14.2.1.2.2.2.2.2.2.2.2.2.1,(x14.2.1.2.2.2.2.2.2.2.2.2.2.1,(x14.2.1.2.2.2.2.2.2.2.2.2.2.2.1,((x14.2.1.2.2.2.2.2.2.2.2.2.2.2.2.1.1,(x14.2.1.2.2.2.2.2.2.2.2.2.2.2.2.1.2.1,(some ((x14.2.1.2.2.2.2.2.2.2.2.2.2.2.2.1.2.2.getD [])++([((x14.2.1.2.2.2.2.2.2.2.2.2.2.2.2.1.1.length:Nat):Int)]))))),x14.2.1.2.2.2.2.2.2.2.2.2.2.2.2.2))))))))))))),())))))))))) fun x15 =>
  Option.bind (agree (Option.bind (qdT (x15.2.1.1,(x15.2.1.2.1,(x15.2.1.2.2.1,(x15.2.1.2.2.2.1,(x15.2.1.2.2.2.2.1,(x15.2.1.2.2.2.2.2.1,(x15.2.1.2.2.2.2.2.2.1,(x15.2.1.2.2.2.2.2.2.2.1,(x15.2.1.2.2.2.2.2.2.2.2.1,(x15.2.1.2.2.2.2.2.2.2.2.2.1,(x15.2.1.2.2.2.2.2.2.2.2.2.2.1,()))))))))))) ((((getD' x.2.2.1.1 ((x12.1.1).toNat) ((([],(([],([],())),((0:Int),((0:Int),())))),((0:Int),())),([],(false,())))).1).1).1,(((((((getD' x.2.2.1.1 ((x12.1.1).toNat) ((([],(([],([],())),((0:Int),((0:Int),())))),((0:Int),())),([],(false,())))).1).1).2).1).1,(((((((getD' x.2.2.1.1 ((x12.1.1).toNat) ((([],(([],([],())),((0:Int),((0:Int),())))),((0:Int),())),([],(false,())))).1).1).2).1).2).1,())),((((((getD' x.2.2.1.1 ((x12.1.1).toNat) ((([],(([],([],())),((0:Int),((0:Int),())))),((0:Int),())),([],(false,())))).1).1).2).2).1,(((((((getD' x.2.2.1.1 ((x12.1.1).toNat) ((([],(([],([],())),((0:Int),((0:Int),())))),((0:Int),())),([],(false,())))).1).1).2).2).2).1,())))) (getD' r13 ((x14.1.1).toNat) ((0:Int),((0:Int),((0:Int),()))))) fun r16 =>
  some (((r16.1,((r16.2.1.1,(r16.2.1.2.1,())),r16.2.2)),()),())) (Option.bind (qdT (x15.2.1.1,(x15.2.1.2.1,(x15.2.1.2.2.1,(x15.2.1.2.2.2.1,(x15.2.1.2.2.2.2.1,(x15.2.1.2.2.2.2.2.1,(x15.2.1.2.2.2.2.2.2.1,(x15.2.1.2.2.2.2.2.2.2.1,(x15.2.1.2.2.2.2.2.2.2.2.1,(x15.2.1.2.2.2.2.2.2.2.2.2.1,(x15.2.1.2.2.2.2.2.2.2.2.2.2.1,()))))))))))) ((((getD' x.2.2.1.1 ((x12.1.1).toNat) ((([],(([],([],())),((0:Int),((0:Int),())))),((0:Int),())),([],(false,())))).1).1).1,(((((((getD' x.2.2.1.1 ((x12.1.1).toNat) ((([],(([],([],())),((0:Int),((0:Int),())))),((0:Int),())),([],(false,())))).1).1).2).1).1,(((((((getD' x.2.2.1.1 ((x12.1.1).toNat) ((([],(([],([],())),((0:Int),((0:Int),())))),((0:Int),())),([],(false,())))).1).1).2).1).2).1,())),((((((getD' x.2.2.1.1 ((x12.1.1).toNat) ((([],(([],([],())),((0:Int),((0:Int),())))),((0:Int),())),([],(false,())))).1).1).2).2).1,(((((((getD' x.2.2.1.1 ((x12.1.1).toNat) ((([],(([],([],())),((0:Int),((0:Int),())))),((0:Int),())),([],(false,())))).1).1).2).2).2).1,())))) (getD' r13 ((x14.1.1).toNat) ((0:Int),((0:Int),((0:Int),()))))) fun r17 =>
  some (((r17.1,((r17.2.1.1,(r17.2.1.2.1,())),r17.2.2)),()),()))) fun x18 =>
  Option.bind (qcK (x15.2.1.1,(x15.2.1.2.1,(x15.2.1.2.2.1,(x15.2.1.2.2.2.1,(x15.2.1.2.2.2.2.1,(x15.2.1.2.2.2.2.2.1,(x15.2.1.2.2.2.2.2.2.1,(x15.2.1.2.2.2.2.2.2.2.1,(x15.2.1.2.2.2.2.2.2.2.2.1,(x15.2.1.2.2.2.2.2.2.2.2.2.1,(x15.2.1.2.2.2.2.2.2.2.2.2.2.1,()))))))))))) (x18.1.1.1,((x18.1.1.2.1.1,(x18.1.1.2.1.2.1,())),x18.1.1.2.2))) fun r19 =>
  req (room (x15.2.1.2.2.2.2.2.2.2.2.2.2.2.2.1.1.length+([(((x18.1.1.1,((x18.1.1.2.1.1,(x18.1.1.2.1.2.1,())),x18.1.1.2.2)),(r19,())),([]:List Int),(false,()))]).length) 128) (Option.bind (some (x15.2.1.2.2.2.2.2.2.2.2.2.2.2.2.1.1++([(((x18.1.1.1,((x18.1.1.2.1.1,(x18.1.1.2.1.2.1,())),x18.1.1.2.2)),(r19,())),([]:List Int),(false,()))]))) fun y20 =>
  some (Sum.inl (((w64 (x14.1.1+1)),()),((x15.2.1.1,(x15.2.1.2.1,(x15.2.1.2.2.1,(x15.2.1.2.2.2.1,(x15.2.1.2.2.2.2.1,(x15.2.1.2.2.2.2.2.1,(x15.2.1.2.2.2.2.2.2.1,(x15.2.1.2.2.2.2.2.2.2.1,(x15.2.1.2.2.2.2.2.2.2.2.1,(x15.2.1.2.2.2.2.2.2.2.2.2.1,(x15.2.1.2.2.2.2.2.2.2.2.2.2.1,(x15.2.1.2.2.2.2.2.2.2.2.2.2.2.1,((y20,(x15.2.1.2.2.2.2.2.2.2.2.2.2.2.2.1.2.1,x15.2.1.2.2.2.2.2.2.2.2.2.2.2.2.1.2.2)),x15.2.1.2.2.2.2.2.2.2.2.2.2.2.2.2))))))))))))),()))))))
  else some (Sum.inr ((),((x14.2.1.1,(x14.2.1.2.1,(x14.2.1.2.2.1,(x14.2.1.2.2.2.1,(x14.2.1.2.2.2.2.1,(x14.2.1.2.2.2.2.2.1,(x14.2.1.2.2.2.2.2.2.1,(x14.2.1.2.2.2.2.2.2.2.1,(x14.2.1.2.2.2.2.2.2.2.2.1,(x14.2.1.2.2.2.2.2.2.2.2.2.1,(x14.2.1.2.2.2.2.2.2.2.2.2.2.1,(x14.2.1.2.2.2.2.2.2.2.2.2.2.2.1,((x14.2.1.2.2.2.2.2.2.2.2.2.2.2.2.1.1,(x14.2.1.2.2.2.2.2.2.2.2.2.2.2.2.1.2.1,x14.2.1.2.2.2.2.2.2.2.2.2.2.2.2.1.2.2)),x14.2.1.2.2.2.2.2.2.2.2.2.2.2.2.2))))))))))))),())))
def qau (x:Zv7×Int×Zv8×Int×Unit):Option ((Zv7×Int×Zv8×Int×Unit)×Unit) :=
  Option.bind (iterW (qN x) (((0:Int),()),())) fun x12 =>
  req (inb x12.1.1 x.2.2.1.1.length) (Option.bind (qcP x.1 ((((getD' x.2.2.1.1 ((x12.1.1).toNat) ((([],(([],([],())),((0:Int),((0:Int),())))),((0:Int),())),([],(false,())))).1).1).1,(((((((getD' x.2.2.1.1 ((x12.1.1).toNat) ((([],(([],([],())),((0:Int),((0:Int),())))),((0:Int),())),([],(false,())))).1).1).2).1).1,(((((((getD' x.2.2.1.1 ((x12.1.1).toNat) ((([],(([],([],())),((0:Int),((0:Int),())))),((0:Int),())),([],(false,())))).1).1).2).1).2).1,())),((((((getD' x.2.2.1.1 ((x12.1.1).toNat) ((([],(([],([],())),((0:Int),((0:Int),())))),((0:Int),())),([],(false,())))).1).1).2).2).1,(((((((getD' x.2.2.1.1 ((x12.1.1).toNat) ((([],(([],([],())),((0:Int),((0:Int),())))),((0:Int),())),([],(false,())))).1).1).2).2).2).1,()))))) fun r13 =>
  Option.bind (req (decide (0≤x12.1.1)&&(Nat.blt (x12.1.1).toNat x.2.2.1.1.length&&(getD' x.2.2.1.1 (x12.1.1).toNat ((([],(([],([],())),((0:Int),((0:Int),())))),((0:Int),())),([],(false,())))).2.1.isEmpty)) (iterW (qO r13 x12 x) (((0:Int),()),((x.1.1,(x.1.2.1,(x.1.2.2.1,(x.1.2.2.2.1,(x.1.2.2.2.2.1,(x.1.2.2.2.2.2.1,(x.1.2.2.2.2.2.2.1,(x.1.2.2.2.2.2.2.2.1,(x.1.2.2.2.2.2.2.2.2.1,(x.1.2.2.2.2.2.2.2.2.2.1,(x.1.2.2.2.2.2.2.2.2.2.2.1,(x.2.1,((x.2.2.1.1,((x12.1.1).toNat,(none:Option Zv43))),x.2.2.2))))))))))))),())))) fun x21 =>
  req (Option.elim x21.2.1.2.2.2.2.2.2.2.2.2.2.2.2.1.2.2 true (fun ks=>!List.isEmpty ks)) (req (inb x12.1.1 (x21.2.1.2.2.2.2.2.2.2.2.2.2.2.2.1.1.set x21.2.1.2.2.2.2.2.2.2.2.2.2.2.2.1.2.1 ((getD' x21.2.1.2.2.2.2.2.2.2.2.2.2.2.2.1.1 x21.2.1.2.2.2.2.2.2.2.2.2.2.2.2.1.2.1 ((([],(([],([],())),((0:Int),((0:Int),())))),((0:Int),())),([],(false,())))).1,x21.2.1.2.2.2.2.2.2.2.2.2.2.2.2.1.2.2.getD [],(getD' x21.2.1.2.2.2.2.2.2.2.2.2.2.2.2.1.1 x21.2.1.2.2.2.2.2.2.2.2.2.2.2.2.1.2.1 ((([],(([],([],())),((0:Int),((0:Int),())))),((0:Int),())),([],(false,())))).2.2)).length) (Option.bind (some (getD' (x21.2.1.2.2.2.2.2.2.2.2.2.2.2.2.1.1.set x21.2.1.2.2.2.2.2.2.2.2.2.2.2.2.1.2.1 ((getD' x21.2.1.2.2.2.2.2.2.2.2.2.2.2.2.1.1 x21.2.1.2.2.2.2.2.2.2.2.2.2.2.2.1.2.1 ((([],(([],([],())),((0:Int),((0:Int),())))),((0:Int),())),([],(false,())))).1,x21.2.1.2.2.2.2.2.2.2.2.2.2.2.2.1.2.2.getD [],(getD' x21.2.1.2.2.2.2.2.2.2.2.2.2.2.2.1.1 x21.2.1.2.2.2.2.2.2.2.2.2.2.2.2.1.2.1 ((([],(([],([],())),((0:Int),((0:Int),())))),((0:Int),())),([],(false,())))).2.2)) ((x12.1.1).toNat) ((([],(([],([],())),((0:Int),((0:Int),())))),((0:Int),())),([],(false,()))))) fun e22 =>
  Option.bind (some ((x21.2.1.2.2.2.2.2.2.2.2.2.2.2.2.1.1.set x21.2.1.2.2.2.2.2.2.2.2.2.2.2.2.1.2.1 ((getD' x21.2.1.2.2.2.2.2.2.2.2.2.2.2.2.1.1 x21.2.1.2.2.2.2.2.2.2.2.2.2.2.2.1.2.1 ((([],(([],([],())),((0:Int),((0:Int),())))),((0:Int),())),([],(false,())))).1,x21.2.1.2.2.2.2.2.2.2.2.2.2.2.2.1.2.2.getD [],(getD' x21.2.1.2.2.2.2.2.2.2.2.2.2.2.2.1.1 x21.2.1.2.2.2.2.2.2.2.2.2.2.2.2.1.2.1 ((([],(([],([],())),((0:Int),((0:Int),())))),((0:Int),())),([],(false,())))).2.2)).set ((x12.1.1).toNat) (e22.1,e22.2.1,(true,())))) fun y23 =>
  some (((x21.2.1.1,(x21.2.1.2.1,(x21.2.1.2.2.1,(x21.2.1.2.2.2.1,(x21.2.1.2.2.2.2.1,(x21.2.1.2.2.2.2.2.1,(x21.2.1.2.2.2.2.2.2.1,(x21.2.1.2.2.2.2.2.2.2.1,(x21.2.1.2.2.2.2.2.2.2.2.1,(x21.2.1.2.2.2.2.2.2.2.2.2.1,(x21.2.1.2.2.2.2.2.2.2.2.2.2.1,()))))))))))),(x21.2.1.2.2.2.2.2.2.2.2.2.2.2.1,((y23,()),((w64 (x21.2.1.2.2.2.2.2.2.2.2.2.2.2.2.2.1+1)),())))),()))))
def qR (budget:Int) (x17:Zv40×Zv3):Option (Zv1 ⊕ Zv1) :=
  bif (((decide (x17.1.1>0))&&(decide (x17.1.2.1>0)))&&(decide (x17.2.1.2.2.2.2.2.2.2.2.2.2.2.2.2.1<budget))) then(Option.bind (qau ((x17.2.1.1,(x17.2.1.2.1,(x17.2.1.2.2.1,(x17.2.1.2.2.2.1,(x17.2.1.2.2.2.2.1,(x17.2.1.2.2.2.2.2.1,(x17.2.1.2.2.2.2.2.2.1,(x17.2.1.2.2.2.2.2.2.2.1,(x17.2.1.2.2.2.2.2.2.2.2.1,(x17.2.1.2.2.2.2.2.2.2.2.2.1,(x17.2.1.2.2.2.2.2.2.2.2.2.2.1,()))))))))))),(x17.2.1.2.2.2.2.2.2.2.2.2.2.2.1,((x17.2.1.2.2.2.2.2.2.2.2.2.2.2.2.1.1,()),x17.2.1.2.2.2.2.2.2.2.2.2.2.2.2.2)))) fun r18 =>
  Option.bind (qx (r18.1.1,(r18.1.2.1,(r18.1.2.2.1.1,r18.1.2.2.2))) (0:Int)) fun r19 =>
  some (Sum.inl ((r19.1,r19.2.1,()),((r18.1.1.1,(r18.1.1.2.1,(r18.1.1.2.2.1,(r18.1.1.2.2.2.1,(r18.1.1.2.2.2.2.1,(r18.1.1.2.2.2.2.2.1,(r18.1.1.2.2.2.2.2.2.1,(r18.1.1.2.2.2.2.2.2.2.1,(r18.1.1.2.2.2.2.2.2.2.2.1,(r18.1.1.2.2.2.2.2.2.2.2.2.1,(r18.1.1.2.2.2.2.2.2.2.2.2.2.1,(r18.1.2.1,((r18.1.2.2.1.1,()),r18.1.2.2.2))))))))))))),()))))
  else some (Sum.inr ((x17.1.1,x17.1.2.1,()),((x17.2.1.1,(x17.2.1.2.1,(x17.2.1.2.2.1,(x17.2.1.2.2.2.1,(x17.2.1.2.2.2.2.1,(x17.2.1.2.2.2.2.2.1,(x17.2.1.2.2.2.2.2.2.1,(x17.2.1.2.2.2.2.2.2.2.1,(x17.2.1.2.2.2.2.2.2.2.2.1,(x17.2.1.2.2.2.2.2.2.2.2.2.1,(x17.2.1.2.2.2.2.2.2.2.2.2.2.1,(x17.2.1.2.2.2.2.2.2.2.2.2.2.2.1,((x17.2.1.2.2.2.2.2.2.2.2.2.2.2.2.1.1,()),x17.2.1.2.2.2.2.2.2.2.2.2.2.2.2.2))))))))))))),())))
def qP (r23:List Zv36) (x20:Zv40×Zv3) (r12:Zv36×Int×Unit) (x24:Zv42×(Unit)):Option (Zv38 ⊕ (Zv41 ⊕ Bool)) :=
  bif (decide (x24.1.1<((r23.length:Nat):Int))) then(req (inb x24.1.1 r23.length) (Option.bind (qx ((x20.2.1.1,(x20.2.1.2.1,(x20.2.1.2.2.1,(x20.2.1.2.2.2.1,(x20.2.1.2.2.2.2.1,(x20.2.1.2.2.2.2.2.1,(x20.2.1.2.2.2.2.2.2.1,(x20.2.1.2.2.2.2.2.2.2.1,(x20.2.1.2.2.2.2.2.2.2.2.1,(x20.2.1.2.2.2.2.2.2.2.2.2.1,(x20.2.1.2.2.2.2.2.2.2.2.2.2.1,()))))))))))),(x20.2.1.2.2.2.2.2.2.2.2.2.2.2.1,(x20.2.1.2.2.2.2.2.2.2.2.2.2.2.2.1.1,x20.2.1.2.2.2.2.2.2.2.2.2.2.2.2.2))) (w64 ((1:Int)+x24.1.1))) fun r25 =>
  bif (r25.1==0) then some (Sum.inr (Sum.inr ((r12.2.1==0)&&((r12.1.1==(getD' r23 ((x24.1.1).toNat) ((0:Int),((0:Int),((0:Int),())))).1)&&((r12.1.2.1==((getD' r23 ((x24.1.1).toNat) ((0:Int),((0:Int),((0:Int),())))).2).1)&&((r12.1.2.2.1==(((getD' r23 ((x24.1.1).toNat) ((0:Int),((0:Int),((0:Int),())))).2).2).1)&&true))))))
  else some (Sum.inl (((w64 (x24.1.1+1)),()),()))))
  else some (Sum.inr (Sum.inl ((),())))
def qbP (r:ByteArray×Int×Int×Zv15×Zv43×Bool×Bool×Zv27×Int×Int×Int×Unit) (p:Zv43×Zv31×Int×Int×Unit) (budget:Int):Option (Bool) :=
  Option.bind (qaa ((qm).1,(((qm).2).1,((((qm).2).2).1,(((((qm).2).2).2).1,((((((qm).2).2).2).2).1,(((((((qm).2).2).2).2).2).1,((((((((qm).2).2).2).2).2).2).1,(((((((((qm).2).2).2).2).2).2).2).1,((((((((((qm).2).2).2).2).2).2).2).2).1,(((((((((((qm).2).2).2).2).2).2).2).2).2).1,((((((((((((qm).2).2).2).2).2).2).2).2).2).2).1,()))))))))))) ((law1Near).1,(((((law1Near).2).1).1,(((((law1Near).2).1).2).1,())),((((law1Near).2).2).1,(((((law1Near).2).2).2).1,())))) (10:Int)) fun r9 =>
  bif ((r9.2.1 !=0)||(!((r9.1.1==0)&&((r9.1.2.1==0)&&((r9.1.2.2.1==1099511627776)&&((r9.1.2.2.2.1==1)&&true)))))) then some false
  else Option.bind (qI ((qm).1,(((qm).2).1,((((qm).2).2).1,(((((qm).2).2).2).1,((((((qm).2).2).2).2).1,(((((((qm).2).2).2).2).2).1,((((((((qm).2).2).2).2).2).2).1,(((((((((qm).2).2).2).2).2).2).2).1,((((((((((qm).2).2).2).2).2).2).2).2).1,(((((((((((qm).2).2).2).2).2).2).2).2).2).1,((((((((((((qm).2).2).2).2).2).2).2).2).2).2).1,()))))))))))) ((law1Near).1,(((((law1Near).2).1).1,(((((law1Near).2).1).2).1,())),((((law1Near).2).2).1,(((((law1Near).2).2).2).1,())))) (10:Int)) fun r10 =>
  bif ((r10.2.1 !=0)||(!((r10.1.1==(qf5 (2:Int)).1)&&((r10.1.2.1==((qf5 (2:Int)).2).1)&&((r10.1.2.2.1==(((qf5 (2:Int)).2).2).1)&&true))))) then some false
  else Option.bind (qaa r p (if (5001:Int)<budget then(5001:Int) else budget)) fun r11 =>
  Option.bind (qI r p (if (5001:Int)<budget then(5001:Int) else budget)) fun r12 =>
  Option.bind (qb3 r p) fun r13 =>
  Option.bind (bif ((r13==0)&&(!(qu budget (0:Int) (5000:Int)))) then some (((1:Int),()),())
  else some ((r13,()),())) fun x14 =>
  bif (x14.1.1 !=0) then some ((((r11.2.1==x14.1.1)&&(r12.2.1==x14.1.1))&&((r11.1.1==0)&&((r11.1.2.1==0)&&((r11.1.2.2.1==0)&&((r11.1.2.2.2.1==0)&&true)))))&&((r12.1.1==0)&&((r12.1.2.1==0)&&((r12.1.2.2.1==0)&&true))))
  else bif ((decide (budget>25))||(decide (((p.1.length:Nat):Int)>16))) then some true
  else Option.bind (qcK r p) fun r15 =>
  Option.bind (qx (r,(p.2.2.1,([((p,(r15,())),([]:List Int),(false,()))],((0:Int),())))) (0:Int)) fun r16 =>
  Option.bind (iterW (qR budget) ((r16.1,r16.2.1,()),((r.1,(r.2.1,(r.2.2.1,(r.2.2.2.1,(r.2.2.2.2.1,(r.2.2.2.2.2.1,(r.2.2.2.2.2.2.1,(r.2.2.2.2.2.2.2.1,(r.2.2.2.2.2.2.2.2.1,(r.2.2.2.2.2.2.2.2.2.1,(r.2.2.2.2.2.2.2.2.2.2.1,(p.2.2.1,(([((p,(r15,())),([]:List Int),(false,()))],()),((0:Int),())))))))))))))),()))) fun x20 =>
  Option.bind (bif (x20.1.1==0) then some ((),(((0:Int),(x20.1.1,(x20.1.2.1,x20.2.1.2.2.2.2.2.2.2.2.2.2.2.2.2))),()))
  else Option.bind (bif (x20.1.2.1==0) then some ((),(((1:Int),(x20.1.1,(x20.1.2.1,x20.2.1.2.2.2.2.2.2.2.2.2.2.2.2.2))),()))
  else some ((),(((2:Int),(x20.1.1,(x20.1.2.1,x20.2.1.2.2.2.2.2.2.2.2.2.2.2.2.2))),()))) fun x21 =>
  some ((),(x21.2.1,()))) fun x22 =>
  bif ((r11.2.1 !=0)||(!((r11.1.1==x22.2.1.1)&&((r11.1.2.1==x22.2.1.2.1)&&((r11.1.2.2.1==x22.2.1.2.2.1)&&((r11.1.2.2.2.1==x22.2.1.2.2.2.1)&&true)))))) then some false
  else bif ((decide (x20.1.1>0))||(x20.2.1.2.2.2.2.2.2.2.2.2.2.2.2.2.1==0)) then some ((r12.2.1==8)&&((r12.1.1==0)&&((r12.1.2.1==0)&&((r12.1.2.2.1==0)&&true))))
  else Option.bind (qcP r p) fun r23 =>
  Option.bind (α:=Zv41 ⊕ Bool) (iterW (qP r23 x20 r12) (((0:Int),()),())) (Sum.elim (fun x26 =>
  some false) some)
end
end Go.Proofs.Ytcifaoaepbidoaa
namespace Go.Den
open Go.Eng Go.Sort Go.Proofs Go.Shelf Go.Lib
set_option linter.unusedVariables false
set_option linter.unusedSectionVars false
set_option linter.unusedSimpArgs false
instance (τ:Ty):Inhabited (D τ):=⟨dflt τ⟩

theorem qn3 {α:Type} [Inhabited α] (enc:α→List Value) (k:Nat) (hk:∀x,(enc x).length=k):∀(l:List α) (t:Nat),t<l.length*k→(l.map enc).flatten[t]?=some ((enc l[t / k]!)[t % k]!)
  | [],t,h=>by simp at h
  | x::l,t,h=>by
    rw[List.map_cons,List.flatten_cons];have k0:0<k:=by
      rcases Nat.eq_zero_or_pos k with e | e
      · subst e;simp at h
      · exact e
    by_cases ht:t<k
    · rw[List.getElem?_append_left (by rw[hk];exact ht),Nat.div_eq_of_lt ht,Nat.mod_eq_of_lt ht];simp[hk,ht]
    · rw[List.getElem?_append_right (by rw[hk];omega),hk,qn3 enc k hk l (t-k) (by rw[List.length_cons,Nat.add_mul] at h;omega)];obtain⟨u,rfl⟩:∃u,t=u+k:=⟨t-k,by omega⟩;rw[Nat.add_sub_cancel,Nat.add_div_right _ k0,Nat.add_mod_right];simp
theorem flen {α:Type} (enc:α→List Value) (k:Nat) (hk:∀x,(enc x).length=k):∀l:List α,((l.map enc).flatten).length=l.length*k
  | []=>by simp
  | x::l=>by rw[List.map_cons,List.flatten_cons,List.length_append,hk,flen enc k hk l,List.length_cons,Nat.add_mul];omega
theorem qko {α:Type} [Inhabited α] (enc:α→List Value) (k:Nat) (hk:∀x,(enc x).length=k) (l:List α):flatK enc k l.toArray=((l.map enc).flatten).toArray:=by
  have hl:=flen enc k hk l;refine ext_get! (by simp[hl]) fun t ht=>?_
  have ht':t<l.toArray.size*k:=by simpa using ht
  rw[get_flatK _ _ _ _ ht'];have:=qn3 enc k hk l t (by simpa using ht');simp[this]

variable [CT : Ctx]
theorem qgc {w:World} {S:Sp}:∀(τ:Ty) (x:D τ),τ.flat=true→Rep w S τ x [] (qaX τ x)
  | .int k,x,_=>⟨rfl,rfl⟩
  | .bool,x,_=>⟨rfl,rfl⟩
  | .str,x,_=>⟨rfl,rfl⟩
  | .nil,x,_=>⟨rfl,rfl⟩
  | .sl e,x,h=>by cases h
  | .osl i e,x,h=>by cases h
  | .obx _,x,h=>by cases h
  | .err,x,h=>by cases h
  | .bld _ _,x,h=>by cases h
  | .st f r,x,h=>by
    simp only[Ty.flat,Bool.and_eq_true] at h;exact⟨_,_,[],[],rfl,rfl,qgc f x.1 h.1,qgc r x.2 h.2⟩
theorem qlU {w:World} {S:Sp} {τ:Ty} (hf:τ.flat=true):∀ {xs:List (D τ)} {us:List Value},RepL (fun x c=>Rep w S τ x [] c) xs us→us=(xs.map (qaX τ)).flatten
  | [],us,h=>h
  | x::xs,us,⟨c,r,e,h1,h2⟩=>by
    rw[e,qix τ hf h1,qlU hf h2];rfl
theorem qmk {w:World} {S:Sp} {τ:Ty} (hf:τ.flat=true):∀(xs:List (D τ)),RepL (fun x c=>Rep w S τ x [] c) xs (xs.map (qaX τ)).flatten
  | []=>rfl
  | x::xs=>⟨_,_,rfl,qgc τ x hf,qmk hf xs⟩
theorem chg_grow {w w':World} (h:Chg (CT:=⟨[],[],true,[],none,none⟩) [] w w'):∃q os',w'=grow (w.drewN q) os':=by
  refine⟨w'.drawn-w.drawn,w'.heap.extract w.heap.size w'.heap.size,?_⟩;obtain⟨heap,tape,drawn,os,output⟩:=w;obtain⟨heap',tape',drawn',os',output'⟩:=w';obtain⟨h1,h2,h3,h4,h5,h6⟩:=h;simp only at h1 h2 h3 h4 h5 h6;subst h1 h2 h3;have h6:=h6 trivial;have:heap'=heap++heap'.extract heap.size heap'.size:=by
    apply Array.ext_getElem?;intro j;rw[Array.getElem?_append];by_cases hj:j<heap.size
    · rw[if_pos hj];exact h5 j hj (by simp)
    · rw[if_neg hj,Array.getElem?_extract];by_cases hj2:j<heap'.size
      · rw[if_pos (by omega)];congr 1;omega
      · rw[if_neg (by omega),Array.getElem?_eq_none (by omega)]
  show World.mk heap' tape' drawn' os' output'=World.mk (heap++heap'.extract heap.size heap'.size) tape' (drawn+(drawn'-drawn)) os' output';rw[←this];congr 1;omega

section
variable {P : Program} {ρ : Ren}
theorem qnf (L:SlLaysF0.n6 P ρ) {f:FuncId} (hf6:ρ.f 6=f) {τ:Ty} {i:TypeId} (hi:ρ.t 24=i) (hflat:τ.flat=true) (hagg:τ.isAgg=true) (aE:∀w,(isAgg i).run P w = .ok true w) (zE:∀w,(Go.sizeOf i).run P w = .ok τ.size w) {g:FuncId} {res:List Ty} {φ:DL [τ,τ]→Option Int} {tot:Option (DL [τ,τ]→Int)}
    (hc:ConOK (CT:=⟨[],[],true,[],none,none⟩) P g ⟨[τ,τ],true,res,.int .i64,φ,tot⟩) (cf:D τ→D τ→Int) (hcf:∀x y,φ (x,y,())=some (cf x y)) (hO:SWO (ltOf cf)) (hT:∀x y,(ltOf cf) x y=false→(ltOf cf) y x=false→x=y) (eg:∀args w,(callFunc g args).run P w = .ok (.enter g args) w) :
    SrtOK P f ⟨i,τ,some g,fun xs=>xs.mergeSort fun x y=>!(ltOf cf) y x⟩:=by
  subst hf6;subst hi;refine⟨hflat,fun xs=>List.length_mergeSort xs,fun w S v M xs us hlen hown hrep=>?_⟩;simp only at hown hrep ⊢;have hsz:∀x:D τ,(qaX τ x).length=τ.size:=fun x=>Rep.length τ (qgc (w:=w) (S:=S) τ x hflat);have hus:=qlU hflat hrep;rcases hown with ⟨rfl,⟨ao,rfl⟩,h3,h4⟩ | ⟨b,cap,cur,rfl,rfl,hb,hcap,hcap2,hcs,htake⟩
  · have hxs:xs=[]:=List.length_eq_zero_iff.1 h3;subst hxs;refine(AnyF.slices_SortFunc_none L ao 0 _ w).mono ?_
    rintro e w' ⟨rfl,rfl⟩
    exact⟨rfl,Chg.refl _ _,us,.inl ⟨rfl,⟨ao,rfl⟩,rfl,h4⟩,by subst h4;simp[RepL]⟩
  · have hrow:=hb;obtain⟨fz,hb,hfz⟩:=hb;have hcmp:CmpLays P g #[] (qaX τ) τ.size cf b 0 xs.toArray.size w:=fun m os dk hdk x y=>by
      have:=ConOK.calls (CT:=⟨[],[],true,[],none,none⟩) hc (sortWorldK (qaX τ) τ.size w b 0 m dk os) ⟨fun _=>False,fun _=>none⟩ (#[.agg (qaX τ x).toArray,.agg (qaX τ y).toArray] ++ #[]) (x,y,()) (cf x y) (fun _ h=>h.elim) (tabR_nil (CT:=⟨[],[],true,[],none,none⟩) rfl rfl)
        ⟨_,_,rfl,⟨qaX τ x,qgc (CT:=⟨[],[],true,[],none,none⟩) τ x hflat,by simp[oneV,hagg]⟩,_,_,rfl,⟨qaX τ y,qgc (CT:=⟨[],[],true,[],none,none⟩) τ y hflat,by simp[oneV,hagg]⟩,rfl⟩ (hcf x y)
      refine this.mono ?_
      rintro e w' ⟨v,rfl,hch,M',cs,_,_,hr,hv⟩
      refine⟨?_,chg_grow hch⟩;rw[hv,hr.2];rfl
    have hblk:b<w.heap.size:=(Array.getElem?_eq_some_iff.1 hb).1
    have hul:us.length=xs.length*τ.size:=by rw[hus];exact flen _ _ hsz xs
    have hnc:xs.length*τ.size≤cur.size:=by rw[hcs];exact Nat.mul_le_mul_right _ hcap
    have hH:HoldsK (qaX τ) τ.size w b 0 xs.toArray:=by
      intro j hj;rw[size_flatK] at hj;rw[qko _ _ hsz,←hus]
      have hj':j<us.length:=by rw[hul];simpa using hj
      refine⟨?_,by rw[Nat.zero_add];exact hrow.fro (by omega)⟩;simp only[World.cell?,hb,Nat.zero_add];have:cur[j]?=us[j]?:=by
        rw[←htake,List.getElem?_take,if_pos (by rw[←hul];exact hj'),Array.getElem?_toList]
      simp[this,hj']
    have:=AnyQ.slices_SortFunc_total L τ.size aE zE (qaX τ) hsz (fun x v hv=>Rep.one τ (qgc (w:=w) (S:=S) τ x hflat) v hv) cf hO g #[] b 0 cap xs.toArray w eg hcmp hH hblk (by simpa using hlen) hT;simp only[List.size_toArray] at this;refine this.mono ?_
    rintro e w' ⟨rfl,n,os,rfl⟩
    have hl:=List.length_mergeSort (le:=fun x y=>!ltOf cf y x) xs;generalize hys:xs.mergeSort (fun x y=>!ltOf cf y x)=ys at hl ⊢;simp only[hys]
    have hyl:((ys.map (qaX τ)).flatten).length=xs.length*τ.size:=by rw[flen _ _ hsz ys,hl]
    have hheap:∀j,j<w.heap.size→(sortWorldK (qaX τ) τ.size w b 0 n ys.toArray os).heap[j]?=if b=j then some (.cells (putCells id 0 (flatK (qaX τ) τ.size ys.toArray) cur) (ρ.t 24) fz) else w.heap[j]?:=fun j hj=>by
      simp only[sortWorldK,putRowK,putRow,grow,mapBlock,Sort.ahead];rw[Array.getElem?_append_left (by simpa using hj),Array.getElem?_modify];by_cases e:b=j
      · subst e;simp[hb,onCells]
      · simp[e]
    refine⟨trivial,⟨rfl,rfl,rfl,?_,fun j hj hn=>?_,?_⟩,_,.inr ⟨b,cap,putCells id 0 (flatK (qaX τ) τ.size ys.toArray) cur,rfl,rfl,?_,hcap,hcap2,?_,rfl⟩,?_⟩
    · simp[sortWorldK,putRowK,putRow,grow,mapBlock,Sort.ahead]
    · rw[hheap j hj,if_neg (fun e=>hn (by simp[e]))]
    · simp[sortWorldK,putRowK,putRow,grow,mapBlock,Sort.ahead]
    · exact⟨fz,by rw[hheap b hblk,if_pos rfl],by simpa[putCells] using hfz⟩
    · simp[putCells,hcs]
    · have:(putCells id 0 (flatK (qaX τ) τ.size ys.toArray) cur).toList.take (xs.length*τ.size)=(ys.map (qaX τ)).flatten:=by
        apply List.ext_getElem?;intro j;rw[List.getElem?_take];by_cases hj:j<xs.length*τ.size
        · rw[if_pos hj,Array.getElem?_toList,qko _ _ hsz]
          have h1:j<cur.size:=by omega
          simp[putCells,Array.getElem?_mapIdx,h1,hyl,hj]
        · rw[if_neg hj,List.getElem?_eq_none (by rw[hyl];omega)]
      rw[this];exact qmk hflat ys
end
end Go.Den
namespace Go.Den
set_option linter.unusedVariables false
set_option linter.unusedSimpArgs false

theorem qhu {T α:Type} {f:T→Option (T ⊕ α)}:∀ {n m:Nat} {x:T} {r:α},iterN f n x=some r→n≤m→iterN f m x=some r
  | 0,_,_,_,h,_=>by simp[iterN] at h
  | n+1,0,_,_,_,h=>by omega
  | n+1,m+1,x,r,h,hm=>by
    simp only[iterN] at h ⊢
    match hf:f x with
    | none=>simp[hf] at h
    | some (.inr q)=>simp only[hf] at h ⊢;exact h
    | some (.inl y)=>simp only[hf] at h ⊢;exact qhu h (by omega)
theorem qir {T α:Type} {f:T→Option (T ⊕ α)} {n:Nat} {x:T} {r:α} (h:iterN f n x=some r):iterW f x=some r:=by
  have hx:∃n,(iterN f n x).isSome=true:=⟨n,by rw[h];rfl⟩;unfold iterW;rw[dif_pos hx];obtain⟨q,hq⟩:=Option.isSome_iff_exists.1 (Classical.choose_spec hx);rw[hq];rcases Nat.le_total n (Classical.choose hx) with hl | hl
  · rw[←hq,qhu h hl]
  · rw[←h,qhu hq hl]
theorem qiy {T α:Type} {f:T→Option (T ⊕ α)} {x:T} {r:α} (h:iterW f x=some r):∃n,iterN f n x=some r:=by
  unfold iterW at h;split at h
  · exact⟨_,h⟩
  · cases h
theorem qs {T α:Type} {f:T→Option (T ⊕ α)} {x y:T} (h:f x=some (.inl y)):iterW f x=iterW f y:=by
  cases hy:iterW f y with
  | some r =>
    obtain⟨n,hn⟩:=qiy hy;exact qir (n:=n+1) (by simp[iterN,h,hn])
  | none =>
    cases hx:iterW f x with
    | none=>rfl
    | some r =>
      obtain⟨n,hn⟩:=qiy hx
      cases n with
      | zero=>simp[iterN] at hn
      | succ n =>
        simp only[iterN,h] at hn;rw[qir hn] at hy;cases hy
theorem qk {T α:Type} {f:T→Option (T ⊕ α)} {x:T} {r:α} (h:f x=some (.inr r)):iterW f x=some r:=qir (n:=1) (by simp[iterN,h])
theorem qhA {T α:Type} {f:T→Option (T ⊕ α)} (I:T→Prop) (μ:T→Nat) (Q:α→Prop)
    (h:∀x,I x→(∃y,f x=some (.inl y)∧I y∧μ y<μ x)∨(∃r,f x=some (.inr r)∧Q r)):∀x,I x→∃r,iterW f x=some r∧Q r:=by
  have key:∀(n:Nat) x,μ x<n→I x→∃r,iterW f x=some r∧Q r:=by
    intro n
    induction n with
    | zero=>intro x hx;omega
    | succ n ih =>
      intro x hx hi;rcases h x hi with ⟨y,h1,h2,h3⟩ | ⟨r,h1,h2⟩
      · rw[qs h1];exact ih y (by omega) h2
      · exact⟨r,qk h1,h2⟩
  exact fun x hi=>key _ x (Nat.lt_succ_self _) hi
theorem qaO {T α:Type} {f:T→Option (T ⊕ α)} (n:Nat) (st:Nat→T) (r:α) (hs:∀i,i<n→f (st i)=some (.inl (st (i+1)))) (he:f (st n)=some (.inr r)):iterW f (st 0)=some r:=by
  have key:∀k,k≤n→iterW f (st (n-k))=some r:=by
    intro k
    induction k with
    | zero=>intro _;exact qk he
    | succ k ih =>
      intro hk;have:=hs (n-(k+1)) (by omega);rw[show n-(k+1)+1=n-k by omega] at this;rw[qs this];exact ih (by omega)
  have:=key n (Nat.le_refl _)
  rwa [Nat.sub_self] at this
theorem qan {α β:Type} (xs:List α) (p:α→Bool) (f:((Int×Unit)×Unit)→Option (((Int×Unit)×Unit) ⊕ β)) (A B:β)
    (h1:∀i (hi:i<xs.length),f (((i:Int),()),())=bif p xs[i] then some (.inr A) else some (.inl ((((i+1:Nat):Int),()),()))) (h2:f (((xs.length:Int),()),())=some (.inr B)) :
    iterW f ((0,()),())=some (bif xs.any p then A else B):=by
  have key:∀k i,i+k=xs.length→iterW f (((i:Int),()),())=some (bif (xs.drop i).any p then A else B):=by
    intro k
    induction k with
    | zero =>
      intro i hi
      have:i=xs.length:=by omega
      subst this;rw[qk h2];simp
    | succ k ih =>
      intro i hi
      have hl:i<xs.length:=by omega
      have hs:=h1 i hl;rw[List.drop_eq_getElem_cons hl]
      cases hp:p xs[i] with
      | true =>
        rw[hp] at hs;rw[qk hs];simp only[List.any_cons,hp,Bool.true_or,cond_true]
      | false =>
        rw[hp] at hs;rw[qs hs,ih (i+1) (by omega)];simp only[List.any_cons,hp,Bool.false_or]
  have:=key xs.length 0 (by omega);simpa using this
def scan {β:Type} (e:Nat→Option β) (B:β):Nat→Nat→β
  | _,0=>B
  | i,k+1=>match e i with
    | some b=>b
    | none=>scan e B (i+1) k
theorem qky {β:Type} (n:Nat) (f:((Int×Unit)×Unit)→Option (((Int×Unit)×Unit) ⊕ β)) (e:Nat→Option β) (B:β)
    (h1:∀i,i<n→f (((i:Int),()),())=match e i with
      | some b=>some (.inr b)
      | none=>some (.inl ((((i+1:Nat):Int),()),()))) (h2:f (((n:Int),()),())=some (.inr B)) :
    iterW f ((0,()),())=some (scan e B 0 n):=by
  have key:∀k i,i+k=n→iterW f (((i:Int),()),())=some (scan e B i k):=by
    intro k
    induction k with
    | zero =>
      intro i hi
      have:i=n:=by omega
      subst this;exact qk h2
    | succ k ih =>
      intro i hi;have hs:=h1 i (by omega);unfold scan
      match he:e i with
      | some b=>rw[he] at hs;exact qk hs
      | none=>rw[he] at hs;rw[qs hs];exact ih (i+1) (by omega)
  exact key n 0 (by omega)
theorem qd {n:Int} (h1 : -9223372036854775808≤n) (h2:n≤9223372036854775807):w64 n=n:=by
  simp[w64,IntKind.wrap,IntKind.signed,IntKind.bits];omega
theorem qb2 {n b:Nat} (h:n*b≤140737488355328):room n b=true:=Nat.ble_eq_true_of_le h
theorem beq_f {α:Type} [BEq α] [LawfulBEq α] {a b:α} (h:¬a=b):(a==b)=false:=by simpa using h
theorem bne_t {α:Type} [BEq α] [LawfulBEq α] {a b:α} (h:¬a=b):(a !=b)=true:=by simpa using h
theorem beq_t {α:Type} [BEq α] [LawfulBEq α] {a b:α} (h:a=b):(a==b)=true:=by simpa using h
theorem bne_f {α:Type} [BEq α] [LawfulBEq α] {a b:α} (h:a=b):(a !=b)=false:=by simpa using h
theorem qg {α:Type} (x:Option α):req true x=x:=rfl
theorem at?_eq {α:Type} (xs:List α) (i:Int) (h0:0≤i) (h1:i<(xs.length:Int)):at? xs i=some (xs[i.toNat]'(by omega)):=by
  simp[at?,h0,List.getElem?_eq_getElem (show i.toNat<xs.length by omega)]
theorem inb_iff {i:Int} {n:Nat}:inb i n=true↔0≤i∧i<(n:Int):=by simp[inb]
def Le {α:Type} (a b:Option α):Prop:=∀r,a=some r→b=some r
theorem Le.refl {α:Type} (a:Option α):Le a a:=fun _ h=>h
theorem Le.bind {α β:Type} {a b:Option α} {f g:α→Option β} (h:Le a b) (hf:∀x,Le (f x) (g x)):Le (Option.bind a f) (Option.bind b g):=fun r hr=>by
  obtain⟨x,h1,h2⟩:=Option.bind_eq_some_iff.1 hr;rw[h x h1];exact hf x r h2
theorem Le.elim {α β γ:Type} {f g:α→Option γ} {f' g':β→Option γ} (h:∀x,Le (f x) (g x)) (h':∀x,Le (f' x) (g' x)):∀x,Le (Sum.elim f f' x) (Sum.elim g g' x)
  | .inl x=>h x
  | .inr x=>h' x
theorem Le.cond {α:Type} {c:Bool} {a b a' b':Option α} (h:Le a a') (h':Le b b'):Le (bif c then a else b) (bif c then a' else b'):=by
  cases c
  · exact h'
  · exact h
theorem Le.req {α:Type} {c:Bool} {a b:Option α} (h:Le a b):Le (req c a) (req c b):=by
  cases c
  · exact Le.refl _
  · exact h
theorem Le.gopt {α:Type} {c:Bool} {d:α} {a b:Option α} (h:Le a b):Le (gopt c d a) (gopt c d b):=by
  cases c
  · exact Le.refl _
  · exact h
theorem Le.map {α β:Type} {f:α→β} {a b:Option α} (h:Le a b):Le (Option.map f a) (Option.map f b):=fun r hr=>by
  obtain⟨x,h1,h2⟩:=Option.map_eq_some_iff.1 hr;rw[h x h1,←h2];rfl
theorem Le.iter {T α:Type} {f g:T→Option (T ⊕ α)} (h:∀x,Le (f x) (g x)) (n:Nat) (x:T):Le (iterN f n x) (iterW g x):=by
  have key:∀n x,Le (iterN f n x) (iterN g n x):=by
    intro n
    induction n with
    | zero=>intro x;exact Le.refl _
    | succ n ih =>
      intro x r hr;simp only[iterN] at hr ⊢
      match hf:f x with
      | none=>rw[hf] at hr;cases hr
      | some (.inl y)=>rw[hf] at hr;rw[h x _ hf];exact ih y r hr
      | some (.inr q)=>rw[hf] at hr;rw[h x _ hf];exact hr
  exact fun r hr=>qir (key n x r hr)
def Mono {T α:Type} (G:(T→Option α)→T→Option α):Prop:=∀φ ψ,(∀x,Le (φ x) (ψ x))→∀x,Le (G φ x) (G ψ x)
theorem Le.fix {T α:Type} {F G:(T→Option α)→T→Option α} (h:∀φ ψ,(∀x,Le (φ x) (ψ x))→∀x,Le (F φ x) (G ψ x)) (hG:Mono G) (n:Nat) (x:T):Le (fixN F n x) (fixW G x):=by
  have key:∀n x,Le (fixN F n x) (fixN G n x):=by
    intro n
    induction n with
    | zero=>intro x;exact Le.refl _
    | succ n ih=>intro x;exact h _ _ ih x
  have up:∀n x,Le (fixN G n x) (fixN G (n+1) x):=by
    intro n
    induction n with
    | zero=>intro x r hr;cases hr
    | succ n ih=>intro x;exact hG _ _ ih x
  have mono:∀k n x,Le (fixN G n x) (fixN G (n+k) x):=by
    intro k
    induction k with
    | zero=>intro n x;exact Le.refl _
    | succ k ih=>intro n x r hr;exact up _ x r (ih n x r hr)
  intro r hr;have h1:=key n x r hr;have hx:∃n,(fixN G n x).isSome=true:=⟨n,by rw[h1];rfl⟩;unfold fixW;rw[dif_pos hx];obtain⟨q,hq⟩:=Option.isSome_iff_exists.1 (Classical.choose_spec hx);rw[hq];rcases Nat.le_total n (Classical.choose hx) with hl | hl
  · have:=mono (Classical.choose hx-n) n x r h1;rw[show n+(Classical.choose hx-n)=Classical.choose hx by omega,hq] at this;exact this
  · have:=mono (n-Classical.choose hx) (Classical.choose hx) x q hq;rw[show Classical.choose hx+(n-Classical.choose hx)=n by omega,h1] at this;exact this.symm
def rngB:(τ:Ty)→D τ→Bool
  | .int k,(n:Int)=>decide (k.min≤n)&&decide (n≤k.max)
  | .bool,_=>true
  | .str,(s:ByteArray)=>Nat.ble s.size maxLen
  | .sl e,(xs:List (D e))=>Nat.ble xs.length maxLen&&xs.all (rngB e)
  | .osl _ e,(xs:List (D e))=>Nat.ble xs.length maxLen&&xs.all (rngB e)
  | .obx e,x=>rngB e x
  | .onl _ _,_=>true
  | .hrl _ _ _ _ _,_=>true
  | .err,_=>true
  | .bld _ _,_=>true
  | .nil,_=>true
  | .ref,_=>true
  | .ifc _ _,_=>true
  | .omp _ _,_=>true
  | .st f r,x=>rngB f x.1&&rngB r x.2
theorem qhD:∀(τ:Ty) (x:D τ),rngB τ x=true→Rng τ x
  | .int k,n,h=>by
    simp only[rngB,Bool.and_eq_true,decide_eq_true_eq] at h
    cases k<;>exact h
  | .bool,_,_=>trivial
  | .str,s,h=>Nat.le_of_ble_eq_true h
  | .sl e,xs,h=>by
    simp only[rngB,Bool.and_eq_true] at h;exact⟨Nat.le_of_ble_eq_true h.1,fun x hx=>qhD e x (List.all_eq_true.1 h.2 x hx)⟩
  | .osl _ e,xs,h=>by
    simp only[rngB,Bool.and_eq_true] at h;exact⟨Nat.le_of_ble_eq_true h.1,fun x hx=>qhD e x (List.all_eq_true.1 h.2 x hx)⟩
  | .obx e,x,h=>qhD e x h
  | .onl _ _,_,_=>trivial
  | .hrl _ _ _ _ _,_,_=>trivial
  | .err,_,_=>trivial
  | .bld _ _,_,_=>trivial
  | .nil,_,_=>trivial
  | .ref,_,_=>trivial
  | .ifc _ _,_,_=>trivial
  | .omp _ _,_,_=>trivial
  | .st f r,x,h=>by
    simp only[rngB,Bool.and_eq_true] at h;exact⟨qhD f x.1 h.1,qhD r x.2 h.2⟩

def foldN {A:Type} (g:Nat→A→A):Nat→A→A
  | 0,a=>a
  | n+1,a=>g n (foldN g n a)
theorem qja {A R:Type} (n:Nat) (f:((A×Int×Unit)×Unit)→Option (((A×Int×Unit)×Unit) ⊕ R)) (g:Nat→A→A) (fin:A→R) (I:Nat→A→Prop) (a0:A) (h0:I 0 a0)
    (hs:∀i,i<n→∀a,I i a→f ((a,(i:Int),()),())=some (.inl ((g i a,((i:Int)+1),()),()))∧I (i+1) (g i a)) (he:∀a,I n a→f ((a,(n:Int),()),())=some (.inr (fin a))) :
    iterW f ((a0,(0:Int),()),())=some (fin (foldN g n a0)):=by
  have hI:∀i,i≤n→I i (foldN g i a0):=fun i=>by
    induction i with
    | zero=>intro _;exact h0
    | succ i ih=>intro hi;exact(hs i (by omega) _ (ih (by omega))).2
  have:=qaO (f:=f) n (fun i=>((foldN g i a0,(i:Int),()),())) (fin (foldN g n a0)) (fun i hi=>by
    rw[(hs i hi _ (hI i (by omega))).1]
    simp[foldN]) (he _ (hI n (Nat.le_refl _)))
  exact this
theorem qml {A:Type} (F:Nat→List A):∀(n:Nat) (a:List A),foldN (fun i a=>a++F i) n a=a++(List.range n).flatMap F
  | 0,a=>by simp[foldN]
  | n+1,a=>by rw[foldN,qml F n,List.range_succ];simp
theorem qeb {A R:Type} (n B:Nat) (f:(((List A)×Int×Unit)×Unit)→Option ((((List A)×Int×Unit)×Unit) ⊕ R)) (F:Nat→List A) (fin:List A→R) (a0:List A) (hF:∀i,i<n→(F i).length≤B)
    (hs:∀i,i<n→∀a:List A,a.length≤a0.length+i*B→f ((a,(i:Int),()),())=some (.inl ((a++F i,((i:Int)+1),()),()))) (he:∀a,f ((a,(n:Int),()),())=some (.inr (fin a))) :
    iterW f ((a0,(0:Int),()),())=some (fin (a0++(List.range n).flatMap F)):=by
  rw[←qml];refine qja n f (fun i a=>a++F i) fin (fun i a=>a.length≤a0.length+i*B) a0 (by simp) (fun i hi a ha=>⟨hs i hi a ha,?_⟩) (fun a _=>he a);have:=hF i hi;rw[List.length_append,Nat.add_mul];omega
theorem qaU {A C:Type} (F:C→List A) (B:Nat):∀l:List C,(∀x∈l,(F x).length≤B)→(l.flatMap F).length≤l.length*B
  | [],_=>by simp
  | x::l,h=>by
    have:=qaU F B l (fun y hy=>h y (List.mem_cons_of_mem _ hy));have:=h x List.mem_cons_self;rw[List.flatMap_cons,List.length_append,List.length_cons,Nat.add_mul];omega
theorem qmM {A:Type} (xs:List A) (q:A→Bool) (b0:Bool):∀n,n≤xs.length→foldN (fun i b=>b&&((xs[i]?).map q).getD true) n b0=(b0&&(xs.take n).all q)
  | 0,_=>by simp[foldN]
  | n+1,h=>by
    have hn:n<xs.length:=by omega
    rw[foldN,qmM xs q b0 n (by omega),List.getElem?_eq_getElem hn,List.take_succ_eq_append_getElem hn,List.all_append];simp[Bool.and_assoc]
theorem qoA {A R:Type} (xs:List A) (q:A→Bool) (f:((Bool×Int×Unit)×Unit)→Option (((Bool×Int×Unit)×Unit) ⊕ R)) (fin:Bool→R) (b0:Bool)
    (hs:∀(i:Nat) (hi:i<xs.length) (b:Bool),f ((b,(i:Int),()),())=some (.inl ((b&&q xs[i],((i:Int)+1),()),()))) (he:∀b,f ((b,(xs.length:Int),()),())=some (.inr (fin b))) :
    iterW f ((b0,(0:Int),()),())=some (fin (b0&&xs.all q)):=by
  have:=qmM xs q b0 xs.length (Nat.le_refl _);rw[List.take_length] at this;rw[←this];refine qja xs.length f _ fin (fun _ _=>True) b0 trivial (fun i hi b _=>⟨?_,trivial⟩) (fun b _=>he b);rw[hs i hi b,List.getElem?_eq_getElem hi];rfl
theorem qpq {A R:Type} (xs:List A) (q:A→Bool) (f:((Int×Int×Unit)×Unit)→Option (((Int×Int×Unit)×Unit) ⊕ R)) (fin:Int→R)
    (hs:∀(i:Nat) (hi:i<xs.length) (c:Int),0≤c→c≤i→f ((c,(i:Int),()),())=some (.inl (((bif q xs[i] then c+1 else c),((i:Int)+1),()),()))) (he:∀c,f ((c,(xs.length:Int),()),())=some (.inr (fin c))) :
    iterW f (((0:Int),(0:Int),()),())=some (fin ((xs.countP q:Nat):Int)):=by
  have hf:∀n,n≤xs.length→foldN (fun i (c:Int)=>bif ((xs[i]?).map q).getD false then c+1 else c) n 0=(((xs.take n).countP q:Nat):Int):=fun n=>by
    induction n with
    | zero=>intro _;simp[foldN]
    | succ n ih =>
      intro h
      have hn:n<xs.length:=by omega
      rw[foldN,ih (by omega),List.getElem?_eq_getElem hn,List.take_succ_eq_append_getElem hn,List.countP_append];simp only[Option.map_some,Option.getD_some,List.countP_cons,List.countP_nil]
      cases q xs[n]<;>simp
  have:=hf xs.length (Nat.le_refl _);rw[List.take_length] at this;rw[←this];refine qja xs.length f _ fin (fun i c=>0≤c∧c≤i) 0 (by simp) (fun i hi c hc=>⟨?_,?_⟩) (fun b _=>he b)
  · rw[hs i hi c hc.1 hc.2,List.getElem?_eq_getElem hi];rfl
  · cases ((xs[i]?).map q).getD false<;>simp<;>omega
theorem Le.iterW {T α:Type} {f g:T→Option (T ⊕ α)} (h:∀x,Le (f x) (g x)) (x:T):Le (Go.Den.iterW f x) (Go.Den.iterW g x):=fun r hr=>by
  obtain⟨n,hn⟩:=qiy hr;exact Le.iter h n x r hn
theorem Le.agreeW {α:Type} {a b a' b':Option α} (h:Le a a') (h':Le b b'):Le (Go.Den.agree a b) (Go.Den.agree a' b'):=fun r hr=>by
  unfold Go.Den.agree at hr ⊢;split at hr
  · rename_i e;rw[h r hr,h' r (e▸hr),if_pos rfl]
  · cases hr
end Go.Den
namespace Go.Proofs.Ytcifaoaepbidoaa
open Go.Den
set_option linter.unusedVariables false
set_option maxRecDepth 100000
theorem qdH:Mono qB:=by
  intro self self' hself x
  unfold qB qC
  repeat (first | exact Le.refl _ | assumption | apply hself | apply Le.cond | apply Le.req | apply Le.gopt | apply Le.map | apply Le.agreeW | refine Le.iterW (fun _=>?_) _ | refine Le.bind ?_ (Le.elim (fun _=>?_) (fun _=>?_)) | refine Le.bind ?_ (fun _=>?_))
theorem qdE (self self':Zv2→Option Zv40) (hself:∀x,Le (self x) (self' x)) (d2:Zv13×Zv43×Bool×Unit) (x:Zv7×Int×Zv9×Int×Unit) (x3:Zv36×(Unit)):Le (qv d2 self x x3) (qv d2 self' x x3):=by
  unfold qv
  repeat (first | exact Le.refl _ | assumption | apply hself | apply Le.cond | apply Le.req | apply Le.gopt | apply Le.map | apply Le.agreeW | refine Le.iterW (fun _=>?_) _ | refine Le.bind ?_ (Le.elim (fun _=>?_) (fun _=>?_)) | refine Le.bind ?_ (fun _=>?_))
theorem qeA:Mono qK:=by
  intro self self' hself x
  unfold qK qL
  repeat (first | exact Le.refl _ | assumption | apply qdE | apply hself | apply Le.cond | apply Le.req | apply Le.gopt | apply Le.map | apply Le.agreeW | refine Le.iterW (fun _=>?_) _ | refine Le.bind ?_ (Le.elim (fun _=>?_) (fun _=>?_)) | refine Le.bind ?_ (fun _=>?_))
set_option linter.unusedSimpArgs false

abbrev Way:=Int×Int×Int×Int×Unit
abbrev Piece:=Int×Int×Int×(List Way)×Unit
abbrev End:=Int×Int×Int×Bool×Unit
abbrev Rules:=ByteArray×Int×Int×(List Piece)×(List Int)×Bool×Bool×(List End)×Int×Int×Int×Unit
abbrev Rules.name (r:Rules):ByteArray:=r.1
abbrev Rules.width (r:Rules):Int:=r.2.1
abbrev Rules.height (r:Rules):Int:=r.2.2.1
abbrev Rules.pieces (r:Rules):List Piece:=r.2.2.2.1
abbrev Rules.start (r:Rules):List Int:=r.2.2.2.2.1
abbrev Rules.falls (r:Rules):Bool:=r.2.2.2.2.2.1
abbrev Rules.keeps (r:Rules):Bool:=r.2.2.2.2.2.2.1
abbrev Rules.ends (r:Rules):List End:=r.2.2.2.2.2.2.2.1
abbrev Rules.blocked (r:Rules):Int:=r.2.2.2.2.2.2.2.2.1
abbrev Rules.quiet (r:Rules):Int:=r.2.2.2.2.2.2.2.2.2.1
abbrev Rules.repeats (r:Rules):Int:=r.2.2.2.2.2.2.2.2.2.2.1
abbrev tyWay:Ty := .st (.int .i64) (.st (.int .i64) (.st (.int .i64) (.st (.int .i64) .nil)))
abbrev qna:Ty := .st (.int .u8) (.st (.int .i64) (.st (.int .i64) (.st (.sl tyWay) .nil)))
abbrev tyEnd:Ty := .st (.int .i64) (.st (.int .i64) (.st (.int .i64) (.st .bool .nil)))
abbrev qee:Ty := .st .str (.st (.int .i64) (.st (.int .i64) (.st (.sl qna) (.st (.sl (.int .i64)) (.st .bool (.st .bool (.st (.sl tyEnd) (.st (.int .i64) (.st (.int .i64) (.st (.int .i64) .nil))))))))))

def nz (x:Int):Option Int:=if x=0 then none else some x
def qbH (f:Nat→Int) (n:Nat):Int:=scan (fun i=>nz (f i)) 0 0 n
theorem qe8 {f:Nat→Int} {n:Nat} (h:qbH f n=0):∀i,i<n→f i=0:=by
  have key:∀(k i:Nat),scan (fun i=>nz (f i)) 0 i k=0→∀j,i≤j→j<i+k→f j=0:=by
    intro k
    induction k with
    | zero=>intro i _ j h1 h2;omega
    | succ k ih =>
      intro i hs j h1 h2;unfold scan at hs;by_cases c:f i=0
      · simp only[nz,if_pos c] at hs;rcases Nat.eq_or_lt_of_le h1 with e | e
        · rw[←e];exact c
        · exact ih (i+1) hs j e (by omega)
      · simp only[nz,if_neg c] at hs;exact absurd hs c
  exact fun i hi=>key n 0 h i (Nat.zero_le _) (by omega)
theorem qkw {γ:Type} (n:Nat) (f:((Int×Unit)×Unit)→Option (((Int×Unit)×Unit) ⊕ (γ ⊕ Int))) (err:Nat→Int) (u:γ) (z:Option Int)
    (h1:∀i,i<n→f (((i:Int),()),())=if err i=0 then some (.inl ((((i+1:Nat):Int),()),())) else some (.inr (.inr (err i)))) (h2:f (((n:Int),()),())=some (.inr (.inl u))) :
    Option.bind (iterW f ((0,()),())) (Sum.elim (fun _=>z) some)=if qbH err n=0 then z else some (qbH err n):=by
  have key:∀k i,i+k=n→Option.bind (iterW f (((i:Int),()),())) (Sum.elim (fun _=>z) some)=if scan (fun i=>nz (err i)) 0 i k=0 then z else some (scan (fun i=>nz (err i)) 0 i k):=by
    intro k
    induction k with
    | zero =>
      intro i hi
      have:i=n:=by omega
      subst this;rw[qk h2];rfl
    | succ k ih =>
      intro i hi;have hs:=h1 i (by omega);unfold scan;by_cases c:err i=0
      · rw[if_pos c] at hs;rw[qs hs,ih (i+1) (by omega)]
        have:nz (err i)=none:=by simp only[nz,if_pos c]
        rw[this]
      · rw[if_neg c] at hs;rw[qk hs]
        have:nz (err i)=some (err i):=by simp only[nz,if_neg c]
        simp only[this,if_neg c];rfl
  exact key n 0 (by omega)
def ch (s:ByteArray) (i:Nat):Nat:=((s[i]?).getD 0).toNat
theorem qop (s:ByteArray) (i:Nat) (h:i<s.size):∃c:UInt8,strAt s (i:Int)=some c∧c.toNat=ch s i:=by
  refine⟨(s[i]?).getD 0,?_,rfl⟩
  have h0:decide ((0:Int)≤(i:Int))=true:=by simp
  have:s[i]?=some s[i]:=getElem?_pos s i h;unfold strAt;rw[h0,cond_true,Int.toNat_natCast,this];rfl
theorem ch_lt (s:ByteArray) (i:Nat):ch s i<256:=UInt8.toNat_lt _
def qd3 (s:ByteArray) (i:Nat):Bool:=!(decide (65≤ch s i∧ch s i≤90)||decide (i≠0∧48≤ch s i∧ch s i≤57))
def qjm (s:ByteArray):Bool:=!((List.range s.size).any (qd3 s))&&decide (1≤s.size∧s.size≤8)
theorem empty_iff (s:ByteArray):(s.toList==(ByteArray.mk #[]).toList)=decide (s.size=0):=by
  rw[ByteArray.toList_eq,ByteArray.toList_eq];obtain⟨⟨l⟩⟩:=s;rw[Bool.eq_iff_iff,beq_iff_eq,decide_eq_true_eq];exact List.length_eq_zero_iff.symm
theorem name_spec (s:ByteArray) (hs:s.size≤9223372036854775807):qgW s=some (qjm s):=by
  unfold qgW qjm
  have hL:=qan (List.range s.size) (qd3 s) (qc8 s) (.inr false) (.inl ((),())) (fun i hi=>by
    have hi':i<s.size:=by simpa using hi
    obtain⟨c,h1,h2⟩:=qop s i hi';have hlt:=ch_lt s i;unfold qc8
    have h3:(i:Int)<(s.size:Int):=by omega
    have hg:∀b,gopt b 0 (some c)=some (bif b then c else 0):=fun b=>by cases b<;>rfl
    simp only[h3,decide_true,cond_true,h1,Option.bind_some,hg,List.getElem_range,qd (n:=(i:Int)+1) (by omega) (by omega)]
    have hb:qd3 s i = !(decide (65≤c.toNat∧c.toNat≤90)||decide (i≠0∧48≤c.toNat∧c.toNat≤57)):=by unfold qd3;rw[h2]
    rw[hb];generalize hn:c.toNat=n at *
    have e0:((i:Int)==0)=decide (i=0):=by rw[Bool.eq_iff_iff];simp
    rw[e0];by_cases c1:65≤n
    · have a1:decide ((n:Int)≥65)=true:=by simp only[decide_eq_true_eq];omega
      simp only[a1,cond_true,Bool.true_and,hn];by_cases c2:n≤90
      · have a2:decide ((n:Int)≤90)=true:=by simp only[decide_eq_true_eq];omega
        simp[a2,c1,c2]
      · have a2:decide ((n:Int)≤90)=false:=by simp only[decide_eq_false_iff_not];omega
        have a3:decide ((n:Int)<48)=false:=by simp only[decide_eq_false_iff_not];omega
        have a4:decide ((n:Int)>57)=true:=by simp only[decide_eq_true_eq];omega
        have a5:¬n≤57:=by omega
        by_cases c3:i=0
        · simp[a2,c1,c2,c3]
        · simp[a2,a3,a4,a5,c1,c2,c3,hn]
    · have a1:decide ((n:Int)≥65)=false:=by simp only[decide_eq_false_iff_not];omega
      by_cases c3:i=0
      · simp[a1,c1,c3]
      · by_cases c4:48≤n
        · have a3:decide ((n:Int)<48)=false:=by simp only[decide_eq_false_iff_not];omega
          by_cases c5:n≤57
          · have a4:decide ((n:Int)>57)=false:=by simp only[decide_eq_false_iff_not];omega
            simp[a1,a3,a4,c1,c3,c4,c5,hn]
          · have a4:decide ((n:Int)>57)=true:=by simp only[decide_eq_true_eq];omega
            simp[a1,a3,a4,c1,c3,c4,c5,hn]
        · have a3:decide ((n:Int)<48)=true:=by simp only[decide_eq_true_eq];omega
          simp[a1,a3,c1,c3,c4,hn]) (by unfold qc8;simp)
  rw[hL,empty_iff]
  cases (List.range s.size).any (qd3 s) with
  | true=>rfl
  | false =>
    simp only[cond_false,Option.bind_some,Sum.elim_inl,Bool.not_false,Bool.true_and,Option.some.injEq];rw[Bool.eq_iff_iff];simp only[Bool.and_eq_true,Bool.not_eq_true',decide_eq_false_iff_not,decide_eq_true_eq];omega
theorem qpy (s:ByteArray) (hs:s.size≤9223372036854775807):qgw s=some (qjm s):=by
  unfold qgw qjm
  have hL:=qan (List.range s.size) (qd3 s) (qc9 s) (.inr false) (.inl ((),())) (fun i hi=>by
    have hi':i<s.size:=by simpa using hi
    obtain⟨c,h1,h2⟩:=qop s i hi';have hlt:=ch_lt s i;unfold qc9
    have h3:(i:Int)<(s.size:Int):=by omega
    have hg:∀b,gopt b 0 (some c)=some (bif b then c else 0):=fun b=>by cases b<;>rfl
    simp only[h3,decide_true,cond_true,h1,Option.bind_some,hg,List.getElem_range,qd (n:=(i:Int)+1) (by omega) (by omega),qd (n:=((c.toNat:Nat):Int)) (by omega) (by omega)]
    have hb:qd3 s i = !(decide (65≤c.toNat∧c.toNat≤90)||decide (i≠0∧48≤c.toNat∧c.toNat≤57)):=by unfold qd3;rw[h2]
    rw[hb]
    have hc:(c.toNat:Int)<256:=by omega
    generalize hn:c.toNat=n at *
    have e0:((i:Int)==0)=decide (i=0):=by rw[Bool.eq_iff_iff];simp
    rw[e0];unfold qu;by_cases c1:48≤n∧n≤57
    · have a1:(decide ((n:Int)≥48)&&decide ((n:Int)≤57))=true:=by simp only[Bool.and_eq_true,decide_eq_true_eq];omega
      have a2:¬65≤n:=by omega
      by_cases c3:i=0
      · simp[a1,a2,c1,c3]
      · simp[a1,a2,c1,c3]
    · have a1:(decide ((n:Int)≥48)&&decide ((n:Int)≤57))=false:=by simp only[Bool.and_eq_false_iff,decide_eq_false_iff_not];omega
      have a3:decide (i≠0∧48≤n∧n≤57)=false:=by simp only[decide_eq_false_iff_not];omega
      simp only[a1,Bool.not_false,Bool.true_and,cond_true,hn,Bool.false_and,Bool.or_false,a3];have a4:(decide (w64 (n:Int)≥65)&&decide (w64 (n:Int)≤90))=decide (65≤n∧n≤90):=by
        rw[qd (by omega) (by omega),Bool.eq_iff_iff];simp only[Bool.and_eq_true,decide_eq_true_eq];omega
      rw[a4]
      rfl) (by unfold qc9;simp)
  rw[hL]
  cases (List.range s.size).any (qd3 s) with
  | true=>rfl
  | false =>
    simp only[cond_false,Option.bind_some,Sum.elim_inl,Bool.not_false,Bool.true_and,Option.some.injEq];unfold qu;rw[Bool.eq_iff_iff];simp only[Bool.and_eq_true,decide_eq_true_eq];omega
def qh5 (w:Way):Bool:=((((!(qa w.1 (-7:Int) (7:Int)))||(!(qa w.2.1 (-7:Int) (7:Int))))||((w.1==(0:Int))&&(w.2.1==(0:Int))))||(!(qa w.2.2.1 (1:Int) (7:Int))))||(!(qa w.2.2.2.1 (0:Int) (2:Int)))
def pErr (l:List Piece) (i:Nat):Int:=match l[i]? with
  | none=>0
  | some p=>bif decide (p.1<65)||decide (p.1>90) then 6 else bif (l.take i).any (fun q=>q.1==p.1) then 7
    else bif (!(qa p.2.1 0 64))||(!(qa p.2.2.1 0 ((l.length:Nat):Int))) then 4 else bif decide (((p.2.2.2.1.length:Nat):Int)>16) then 2 else bif p.2.2.2.1.any qh5 then 4 else 0
theorem in_eq:qu=qa:=rfl
theorem qlk {α:Type} (l:List α) {i:Nat} (h:i≤l.length):((l.take i).drop 0).length=i:=by simp;omega
theorem qnu (r:Rules):qeq r=some (if r.pieces.length=0 then 8 else if 6<r.pieces.length then 2 else qbH (pErr r.pieces) r.pieces.length):=by
  unfold qeq;by_cases c0:r.pieces.length=0
  · have:(((r.pieces.length:Nat):Int)==0)=true:=beq_t (by omega);rw[this,if_pos c0];rfl
  · have:(((r.pieces.length:Nat):Int)==0)=false:=beq_f (by omega);rw[this,if_neg c0,cond_false];by_cases c1:6<r.pieces.length
    · have:decide (((r.pieces.length:Nat):Int)>6)=true:=by simp only[decide_eq_true_eq];omega
      rw[this,if_pos c1];rfl
    · have:decide (((r.pieces.length:Nat):Int)>6)=false:=by simp only[decide_eq_false_iff_not];omega
      rw[this,if_neg c1,cond_false];rw[qkw r.pieces.length (qcf r) (pErr r.pieces) ((),()) (some 0) (fun i hi=>?_) (by unfold qcf;simp)]
      · split
        · rename_i h;rw[h]
        · rfl
      · unfold qcf
        have h1:(i:Int)<(r.pieces.length:Int):=by omega
        have hg:r.pieces[i]?=some r.pieces[i]:=List.getElem?_eq_getElem hi
        have hb:qY 0 (i:Int) r.pieces.length=true:=by unfold qY;simp only[Bool.and_eq_true,decide_eq_true_eq];omega
        simp only[h1,decide_true,cond_true,at?_eq r.pieces (i:Int) (by omega) h1,Option.bind_some,Int.toNat_natCast,hb,qg,qd (n:=(i:Int)+1) (by omega) (by omega)];unfold pErr;rw[hg];generalize hp:r.pieces[i]=p;simp only
        cases hA:(decide (p.1<65)||decide (p.1>90)) with
        | true=>simp
        | false =>
          have hL2:=qan ((r.pieces.take i).drop 0) (fun q=>q.1==p.1) (qb7 r (((i:Int),()),()) p) (.inr (.inr (.inr (.inr (7:Int))))) (.inl ((),())) (fun j hj=>by
            have hj':j<i:=by rw[qlk _ (by omega)] at hj;exact hj
            unfold qb7
            have h2:(j:Int)<((((r.pieces.take i).drop 0).length:Nat):Int):=by omega
            have h3:(j:Int)≥0:=by omega
            simp only[Int.toNat_natCast,h2,decide_true,cond_true,at?_eq ((r.pieces.take i).drop 0) (j:Int) (by omega) h2,Option.bind_some,h3,qd (n:=(j:Int)+1) (by omega) (by omega)]
            rfl) (by unfold qb7;simp)
          rw[hL2];simp only[List.drop_zero,cond_false,Option.bind_some]
          cases hB:(r.pieces.take i).any (fun q=>q.1==p.1) with
          | true=>simp
          | false =>
            simp only[cond_false,Sum.elim_inl]
            cases hC:((!(qa p.2.1 0 64))||(!(qa p.2.2.1 0 ((r.pieces.length:Nat):Int)))) with
            | true=>simp
            | false =>
              simp only[cond_false];by_cases cD:((p.2.2.2.1.length:Nat):Int)>16
              · simp[cD]
              · have hL4:=qan p.2.2.2.1 qh5 (qb9 p) (.inr (.inr (.inr (.inr (4:Int))))) (.inl ((),())) (fun j hj=>by
                  unfold qb9
                  have h2:(j:Int)<((p.2.2.2.1.length:Nat):Int):=by omega
                  simp only[h2,decide_true,cond_true,at?_eq p.2.2.2.1 (j:Int) (by omega) h2,Option.bind_some,Int.toNat_natCast,qd (n:=(j:Int)+1) (by omega) (by omega)]
                  rfl) (by unfold qb9;simp)
                simp only[cD,decide_false,cond_false,hL4,Option.bind_some]
                cases p.2.2.2.1.any qh5<;>simp
theorem piece_ref (l:List Piece) (i:Nat) (hi:i<l.length) (hl:l.length≤1000) (hr:∀p∈l,Rng qna p):qca l (i:Int)=some (pErr l i):=by
  unfold qca pErr
  have h1:(i:Int)<(l.length:Int):=by omega
  have hg:l[i]?=some l[i]:=List.getElem?_eq_getElem hi;have hrp:=hr _ (List.getElem_mem hi);have hb:0≤l[i].1∧l[i].1≤255:=hrp.1;rw[hg];simp only[at?_eq l (i:Int) (by omega) h1,Option.bind_some,Int.toNat_natCast,qd (n:=l[i].1) (by omega) (by omega),in_eq];generalize l[i]=p at *;have hA':(!(qa p.1 65 90))=(decide (p.1<65)||decide (p.1>90)):=by
    unfold qa;rw[Bool.eq_iff_iff];simp only[Bool.not_eq_true',Bool.and_eq_false_iff,decide_eq_false_iff_not,Bool.or_eq_true,decide_eq_true_eq];omega
  rw[hA']
  cases hA:(decide (p.1<65)||decide (p.1>90)) with
  | true=>simp
  | false =>
    have hL1:=qan ((l.take i).drop 0) (fun q=>q.1==p.1) (qbg (i:Int) l p) (.inr (7:Int)) (.inl ((),())) (fun j hj=>by
      have hj':j<i:=by rw[qlk _ (by omega)] at hj;exact hj
      unfold qbg
      have h2:(j:Int)<(i:Int):=by omega
      have h3:(j:Int)<(l.length:Int):=by omega
      simp only[h2,decide_true,cond_true,at?_eq l (j:Int) (by omega) h3,Option.bind_some,Int.toNat_natCast,List.drop_zero,List.getElem_take,qd (n:=(j:Int)+1) (by omega) (by omega)]
      rfl) (by
        unfold qbg;rw[qlk _ (by omega)]
        simp)
    rw[hL1];simp only[List.drop_zero,cond_false,Option.bind_some]
    cases hB:(l.take i).any (fun q=>q.1==p.1) with
    | true=>simp
    | false =>
      simp only[cond_false,Sum.elim_inl]
      cases hC:((!(qa p.2.1 0 64))||(!(qa p.2.2.1 0 ((l.length:Nat):Int)))) with
      | true=>simp
      | false =>
        simp only[cond_false];by_cases cD:((p.2.2.2.1.length:Nat):Int)>16
        · simp[cD]
        · have hL4:=qan p.2.2.2.1 qh5 (qbh p) (.inr (4:Int)) (.inl ((),())) (fun j hj=>by
            unfold qbh
            have h2:(j:Int)<((p.2.2.2.1.length:Nat):Int):=by omega
            simp only[h2,decide_true,cond_true,at?_eq p.2.2.2.1 (j:Int) (by omega) h2,Option.bind_some,Int.toNat_natCast,qd (n:=(j:Int)+1) (by omega) (by omega),in_eq]
            rfl) (by unfold qbh;simp)
          simp only[cD,decide_false,cond_false,hL4,Option.bind_some]
          cases p.2.2.2.1.any qh5<;>simp
def sErr (r:Rules) (i:Nat):Int:=bif qa (r.start.getD i 0) 0 (2*((r.pieces.length:Nat):Int)) then 0 else 4
def eErr (r:Rules) (i:Nat):Int:=match r.ends[i]? with
  | none=>0
  | some x=>bif !(qa x.1 0 2) then 1 else
    bif (!(bif x.1==1 then x.2.2.1==0 else qa x.2.2.1 1 64))||(!(bif x.1==0 then x.2.1==0 else qa x.2.1 0 (((r.pieces.length:Nat):Int)-1))) then 4 else 0
def qlc (r:Rules):Int:=bif (((!(qa r.blocked (0:Int) (2:Int)))||(!(qa r.quiet (0:Int) (200:Int))))||((r.repeats !=(0:Int))&&(!(qa r.repeats (2:Int) (5:Int))))) then 4 else 0
def qf7 (r:Rules):Int:=if 6<r.ends.length then 2 else qbH (eErr r) r.ends.length
def qdG (r:Rules):Int :=
  if qjm r.name=false then 6 else
  if ¬((1≤r.width∧r.width≤8)∧1≤r.height∧r.height≤8) then 4 else
  if r.pieces.length=0 then 8 else if 6<r.pieces.length then 2 else
  if qbH (pErr r.pieces) r.pieces.length≠0 then qbH (pErr r.pieces) r.pieces.length else
  if ((r.start.length:Nat):Int)≠r.width*r.height then 3 else
  if qbH (sErr r) r.start.length≠0 then qbH (sErr r) r.start.length else
  if qf7 r≠0 then qf7 r else qlc r
theorem within_iff {n a b:Int}:qa n a b=true↔a≤n∧n≤b:=by unfold qa;simp
theorem qiD (r:Rules) (hl:r.pieces.length≤1000):qa7 r=some (qf7 r):=by
  unfold qa7 qf7;by_cases c:6<r.ends.length
  · have:decide (((r.ends.length:Nat):Int)>6)=true:=by simp only[decide_eq_true_eq];omega
    rw[this,if_pos c];rfl
  · have:decide (((r.ends.length:Nat):Int)>6)=false:=by simp only[decide_eq_false_iff_not];omega
    rw[this,if_neg c,cond_false];rw[qkw r.ends.length (qa3 r) (eErr r) ((),()) (some 0) (fun i hi=>?_) (by unfold qa3;simp)]
    · split
      · rename_i h;rw[h]
      · rfl
    · unfold qa3 eErr
      have h1:(i:Int)<(r.ends.length:Int):=by omega
      have hg:r.ends[i]?=some r.ends[i]:=List.getElem?_eq_getElem hi;rw[hg];simp only[h1,decide_true,cond_true,at?_eq r.ends (i:Int) (by omega) h1,Option.bind_some,Int.toNat_natCast,qd (n:=(i:Int)+1) (by omega) (by omega),qd (n:=((r.pieces.length:Nat):Int)-1) (by omega) (by omega)];generalize r.ends[i]=x;by_cases k0:x.1=0
      · have:qa x.1 0 2=true:=within_iff.2 (by omega);have k1:(x.1==1)=false:=beq_f (by omega);simp only[this,beq_t k0,k1,cond_true,cond_false,Option.bind_some,Sum.elim_inl,Bool.not_true]
        cases qa x.2.2.1 1 64<;>cases (x.2.1==0)<;>simp
      · by_cases k1:x.1=1
        · have:qa x.1 0 2=true:=within_iff.2 (by omega);simp only[this,beq_f k0,beq_t k1,cond_true,cond_false,Option.bind_some,Sum.elim_inl,Bool.not_true]
          cases (x.2.2.1==0)<;>cases qa x.2.1 0 (((r.pieces.length:Nat):Int)-1)<;>simp
        · by_cases k2:x.1=2
          · have:qa x.1 0 2=true:=within_iff.2 (by omega);simp only[this,beq_f k0,beq_f k1,beq_t k2,cond_true,cond_false,Option.bind_some,Sum.elim_inl,Bool.not_true]
            cases qa x.2.2.1 1 64<;>cases qa x.2.1 0 (((r.pieces.length:Nat):Int)-1)<;>simp
          · have:qa x.1 0 2=false:=by
              rw[Bool.eq_false_iff];intro h;have:=within_iff.1 h;omega
            simp only[this,beq_f k0,beq_f k1,beq_f k2,cond_true,cond_false,Option.bind_some,Sum.elim_inr,Bool.not_false];rfl
theorem qpn (r:Rules) (hr:Rng qee r):qfx r=some (qdG r):=by
  have hname:r.name.size≤9223372036854775807:=Nat.le_trans hr.1 (by decide);have hstart:r.start.length≤9223372036854775807:=Nat.le_trans hr.2.2.2.2.1.1 (by decide);have hP:r.2.2.2.1.length=r.pieces.length:=rfl;have hW:r.2.1*r.2.2.1=r.width*r.height:=rfl;have hE:r.2.2.2.2.2.2.2.1.length=r.ends.length:=rfl;unfold qfx qdG;rw[name_spec r.name hname,qnu r];simp only[Option.bind_some]
  cases qjm r.name with
  | false=>rfl
  | true =>
    simp only[Bool.not_true,cond_false,Bool.true_eq_false,if_false];by_cases cw:(1≤r.width∧r.width≤8)∧1≤r.height∧r.height≤8
    · have e1:((!(qa r.2.1 1 8))||(!(qa r.2.2.1 1 8)))=false:=by
        rw[within_iff.2 cw.1,within_iff.2 cw.2];rfl
      have e2:¬ ¬((1≤r.width∧r.width≤8)∧1≤r.height∧r.height≤8):=fun h=>h cw;simp only[e1,if_neg e2,cond_false];by_cases c0:r.pieces.length=0
      · simp only[if_pos c0];rfl
      · by_cases c6:6<r.pieces.length
        · simp only[if_neg c0,if_pos c6];rfl
        · simp only[if_neg c0,if_neg c6];by_cases cp:qbH (pErr r.pieces) r.pieces.length=0
          · have hwh:w64 (r.2.1*r.2.2.1)=r.width*r.height:=by
              have h1:r.width*r.height≤8*8:=Int.mul_le_mul cw.1.2 cw.2.2 (by omega) (by omega);have h2:0≤r.width*r.height:=Int.mul_nonneg (by omega) (by omega);exact qd (by omega) (by omega)
            rw[cp,if_neg (fun h=>h rfl),hwh];simp only[bne_self_eq_false,cond_false];by_cases cs:((r.start.length:Nat):Int)=r.width*r.height
            · rw[bne_f cs,if_neg (fun h=>h cs),cond_false];rw[qkw r.start.length (qcG r) (sErr r) ((),()) _ (fun i hi=>?_) (by unfold qcG;simp)]
              · rw[qiD r (by omega)];by_cases cse:qbH (sErr r) r.start.length=0
                · rw[if_pos cse,if_neg (fun h=>h cse)];simp only[Option.bind_some];by_cases ce:qf7 r=0
                  · rw[ce,if_neg (fun h=>h rfl)];simp only[bne_self_eq_false,cond_false];unfold qlc;exact qam _ _ _
                  · rw[if_pos ce,bne_t ce];rfl
                · rw[if_neg cse,if_pos cse]
              · unfold qcG sErr
                have h1:(i:Int)<(r.start.length:Int):=by omega
                have h3:(i:Int)≥0:=by omega
                have hgd:r.start.getD i 0=r.start[i]:=by simp[List.getD_eq_getElem?_getD,List.getElem?_eq_getElem hi]
                simp only[h1,decide_true,cond_true,at?_eq r.start (i:Int) (by omega) h1,Option.bind_some,Int.toNat_natCast,h3,qd (n:=(i:Int)+1) (by omega) (by omega),qd (n:=2*((r.pieces.length:Nat):Int)) (by omega) (by omega),hgd]
                cases qa r.start[i] 0 (2*((r.pieces.length:Nat):Int))<;>simp
            · rw[bne_t cs,if_pos cs];rfl
          · rw[bne_t cp,if_pos cp];rfl
    · have e1:((!(qa r.2.1 1 8))||(!(qa r.2.2.1 1 8)))=true:=by
        rw[Bool.or_eq_true,Bool.not_eq_true',Bool.not_eq_true'];by_cases k:qa r.2.1 1 8=true
        · right;rw[Bool.eq_false_iff];intro k2;exact cw ⟨within_iff.1 k,within_iff.1 k2⟩
        · left;exact Bool.eq_false_iff.2 k
      rw[e1,if_pos cw];rfl
theorem qoR (r:Rules) (hr:Rng qee r):qcc r=some (qdG r):=by
  have hname:r.name.size≤9223372036854775807:=Nat.le_trans hr.1 (by decide);have hstart:r.start.length≤9223372036854775807:=Nat.le_trans hr.2.2.2.2.1.1 (by decide);have hpcs:∀p∈r.pieces,Rng qna p:=hr.2.2.2.1.2;have hP:r.2.2.2.1.length=r.pieces.length:=rfl;have hW:r.2.1*r.2.2.1=r.width*r.height:=rfl;have hE:r.2.2.2.2.2.2.2.1.length=r.ends.length:=rfl;unfold qcc qdG;rw[qpy r.name hname];simp only[Option.bind_some,in_eq]
  cases qjm r.name with
  | false=>rfl
  | true =>
    simp only[Bool.not_true,cond_false,Bool.true_eq_false,if_false];by_cases cw:(1≤r.width∧r.width≤8)∧1≤r.height∧r.height≤8
    · have e1:((!(qa r.2.1 1 8))||(!(qa r.2.2.1 1 8)))=false:=by
        rw[within_iff.2 cw.1,within_iff.2 cw.2];rfl
      have e2:¬ ¬((1≤r.width∧r.width≤8)∧1≤r.height∧r.height≤8):=fun h=>h cw;simp only[e1,if_neg e2,cond_false];by_cases c0:r.pieces.length=0
      · have k1:(((r.2.2.2.1.length:Nat):Int)==0)=true:=beq_t (by omega);rw[k1,if_pos c0];rfl
      · by_cases c6:6<r.pieces.length
        · have k1:(((r.2.2.2.1.length:Nat):Int)==0)=false:=beq_f (by omega)
          have k2:decide (((r.2.2.2.1.length:Nat):Int)>6)=true:=by simp only[decide_eq_true_eq];omega
          rw[k1,k2,if_neg c0,if_pos c6];rfl
        · have k1:(((r.2.2.2.1.length:Nat):Int)==0)=false:=beq_f (by omega)
          have k2:decide (((r.2.2.2.1.length:Nat):Int)>6)=false:=by simp only[decide_eq_false_iff_not];omega
          rw[k1,k2,if_neg c0,if_neg c6,cond_false,cond_false];rw[qkw r.pieces.length (qbl r) (pErr r.pieces) ((),()) _ (fun i hi=>?_) (by unfold qbl;simp)]
          · by_cases cp:qbH (pErr r.pieces) r.pieces.length=0
            · have hwh:w64 (r.2.1*r.2.2.1)=r.width*r.height:=by
                have h1:r.width*r.height≤8*8:=Int.mul_le_mul cw.1.2 cw.2.2 (by omega) (by omega);have h2:0≤r.width*r.height:=Int.mul_nonneg (by omega) (by omega);exact qd (by omega) (by omega)
              rw[if_pos cp,if_neg (fun h=>h cp),hwh];by_cases cs:((r.start.length:Nat):Int)=r.width*r.height
              · rw[bne_f cs,if_neg (fun h=>h cs),cond_false];rw[qkw r.start.length (qbf r) (sErr r) ((),()) _ (fun i hi=>?_) (by unfold qbf;simp)]
                · by_cases cse:qbH (sErr r) r.start.length=0
                  · rw[if_pos cse,if_neg (fun h=>h cse)];unfold qf7;by_cases ce:6<r.ends.length
                    · have k3:decide (((r.2.2.2.2.2.2.2.1.length:Nat):Int)>6)=true:=by simp only[decide_eq_true_eq];omega
                      rw[k3,if_pos ce];rfl
                    · have k3:decide (((r.2.2.2.2.2.2.2.1.length:Nat):Int)>6)=false:=by simp only[decide_eq_false_iff_not];omega
                      rw[k3,if_neg ce,cond_false];rw[qkw r.ends.length (qbm r) (eErr r) ((),()) _ (fun i hi=>?_) (by unfold qbm;simp)]
                      · by_cases cz:qbH (eErr r) r.ends.length=0
                        · rw[if_pos cz,if_neg (fun h=>h cz)];unfold qlc;exact qam _ _ _
                        · rw[if_neg cz,if_pos cz]
                      · unfold qbm eErr
                        have h1:(i:Int)<(r.ends.length:Int):=by omega
                        have hg:r.ends[i]?=some r.ends[i]:=List.getElem?_eq_getElem hi;rw[hg];simp only[h1,decide_true,cond_true,at?_eq r.ends (i:Int) (by omega) h1,Option.bind_some,Int.toNat_natCast,in_eq,qd (n:=(i:Int)+1) (by omega) (by omega),qd (n:=((r.pieces.length:Nat):Int)-1) (by omega) (by omega),qam];generalize r.ends[i]=x
                        cases qa x.1 0 2 with
                        | false=>rfl
                        | true =>
                          simp only[Bool.not_true,cond_false]
                          cases (x.1==1)<;>cases (x.1==0)<;>cases (x.2.2.1==0)<;>cases (x.2.1==0)<;>cases qa x.2.2.1 1 64<;>cases qa x.2.1 0 (((r.pieces.length:Nat):Int)-1)<;>rfl
                  · rw[if_neg cse,if_pos cse]
                · unfold qbf sErr
                  have h1:(i:Int)<(r.start.length:Int):=by omega
                  have hgd:r.start.getD i 0=r.start[i]:=by simp[List.getD_eq_getElem?_getD,List.getElem?_eq_getElem hi]
                  simp only[h1,decide_true,cond_true,at?_eq r.start (i:Int) (by omega) h1,Option.bind_some,Int.toNat_natCast,in_eq,qd (n:=(i:Int)+1) (by omega) (by omega),qd (n:=2*((r.pieces.length:Nat):Int)) (by omega) (by omega),hgd]
                  cases qa r.start[i] 0 (2*((r.pieces.length:Nat):Int))<;>simp
              · rw[bne_t cs,if_pos cs];rfl
            · rw[if_neg cp,if_pos cp]
          · unfold qbl
            have h1:(i:Int)<(r.pieces.length:Int):=by omega
            simp only[h1,decide_true,cond_true,piece_ref r.pieces i hi (by omega) hpcs,Option.bind_some,qd (n:=(i:Int)+1) (by omega) (by omega)];by_cases ce:pErr r.pieces i=0
            · simp[ce]
            · simp[ce,bne_t ce]
    · have e1:((!(qa r.2.1 1 8))||(!(qa r.2.2.1 1 8)))=true:=by
        rw[Bool.or_eq_true,Bool.not_eq_true',Bool.not_eq_true'];by_cases k:qa r.2.1 1 8=true
        · right;rw[Bool.eq_false_iff];intro k2;exact cw ⟨within_iff.1 k,within_iff.1 k2⟩
        · left;exact Bool.eq_false_iff.2 k
      rw[e1,if_pos cw];rfl

abbrev Place:=(List Int)×((List Int)×(List Int)×Unit)×Int×Int×Unit
abbrev Place.cells (p:Place):List Int:=p.1
abbrev Place.h0 (p:Place):List Int:=p.2.1.1
abbrev Place.h1 (p:Place):List Int:=p.2.1.2.1
abbrev Place.turn (p:Place):Int:=p.2.2.1
abbrev Place.quiet (p:Place):Int:=p.2.2.2.1
abbrev tyPlace:Ty := .st (.sl (.int .i64)) (.st (.st (.sl (.int .i64)) (.st (.sl (.int .i64)) .nil)) (.st (.int .i64) (.st (.int .i64) .nil)))
theorem agree_self {α:Type} (x:Option α):agree x x=x:=by simp[agree]
theorem qld (s:List Int) (h:s.length≤1000000):qac s=some s:=by
  unfold qac;have:room (([]:List Int).length+s.length) 8=true:=qb2 (by simp;omega);rw[this]
  cases s with
  | nil=>simp[qg,agree_self]
  | cons a l=>simp[qg]
theorem concat2 (a b:List Int) (ha:a.length≤1000) (hb:b.length≤1000):qbq [a,b]=some (a++b):=by
  have w1:w64 (0+((a.length:Nat):Int))=(a.length:Int):=by rw[Int.zero_add];exact qd (by omega) (by omega)
  have w2:w64 ((a.length:Int)+((b.length:Nat):Int))=((a.length+b.length:Nat):Int):=by rw[qd (by omega) (by omega)];omega
  have w3:w64 ((0:Int)+1)=1:=by decide
  have w4:w64 ((1:Int)+1)=2:=by decide
  have g0:at? [a,b] 0=some a:=rfl;have g1:at? [a,b] 1=some b:=rfl;have l1:iterW (qJ [a,b]) (((0:Int),(0:Int),()),())=some (((((a.length+b.length:Nat):Int)),()),()):=by
    have s0:qJ [a,b] (((0:Int),(0:Int),()),())=some (.inl ((((a.length:Nat):Int),(1:Int),()),())):=by
      unfold qJ;simp only[g0,w1,w3,Option.bind_some];rw[show decide (((a.length:Nat):Int)<0)=false by simp];rfl
    have s1:qJ [a,b] ((((a.length:Nat):Int),(1:Int),()),())=some (.inl ((((a.length+b.length:Nat):Int),(2:Int),()),())):=by
      unfold qJ;simp only[g1,w2,w4,Option.bind_some];rw[show decide (((a.length+b.length:Nat):Int)<0)=false by simp;omega];rfl
    have s2:qJ [a,b] ((((a.length+b.length:Nat):Int),(2:Int),()),())=some (.inr ((((a.length+b.length:Nat):Int),()),())):=rfl;rw[qs s0,qs s1,qk s2]
  have l2:iterW (qM [a,b]) ((([]:List Int),(0:Int),()),())=some ((a++b,()),()):=by
    have s0:qM [a,b] ((([]:List Int),(0:Int),()),())=some (.inl ((a,(1:Int),()),())):=by
      unfold qM;simp only[g0,w3,Option.bind_some];rw[qb2 (by simp;omega)];rfl
    have s1:qM [a,b] ((a,(1:Int),()),())=some (.inl ((a++b,(2:Int),()),())):=by
      unfold qM;simp only[g1,w4,Option.bind_some];rw[qb2 (by omega)];rfl
    have s2:qM [a,b] ((a++b,(2:Int),()),())=some (.inr ((a++b,()),())):=rfl;rw[qs s0,qs s1,qk s2]
  unfold qbq;simp only[l1,Option.bind_some];rw[show decide (((a.length+b.length:Nat):Int)<0)=false by simp;omega]
  have w5:w64 (((a.length+b.length:Nat):Int)-0)=((a.length+b.length:Nat):Int):=by rw[Int.sub_zero];exact qd (by omega) (by omega)
  simp only[w5,cond_false];by_cases c:a.length+b.length=0
  · rw[c];simp only[Int.natCast_zero,show decide ((0:Int)>0)=false by decide,cond_false,Option.bind_some];rw[l2];rfl
  · have c1:decide (((a.length+b.length:Nat):Int)>0)=true:=by simp;omega
    have c2:decide (0<((a.length+b.length:Nat):Int))=true:=by simp;omega
    have c3:room ((((a.length+b.length:Nat):Int)).toNat) 8=true:=qb2 (by omega)
    have c4:∀l:List Int,qY 0 0 l.length=true:=fun l=>by simp[qY]
    simp only[c1,c2,c3,c4,cond_true,Bool.and_self,qg,Option.bind_some,List.take_zero];rw[l2];rfl

def outC (r:Rules) (d:Int):Bool:=decide (d<0)||decide (d>2*((r.pieces.length:Nat):Int))
def outH (d:Int):Bool:=decide (d<0)||decide (d>1000)
def outT (p:Place):Bool:=(((p.turn !=0)&&(p.turn !=1))||decide (p.quiet<0))||decide (p.quiet>200)
def qei (r:Rules) (p:Place):Bool:=p.cells.any (outC r)||((p.h0++p.h1).any outH||outT p)
def qhv (r:Rules) (p:Place):Bool:=((((p.cells.length:Nat):Int)!=r.width*r.height)||(((p.h0.length:Nat):Int)!=((r.pieces.length:Nat):Int)))||(((p.h1.length:Nat):Int)!=((r.pieces.length:Nat):Int))
def qa4 (r:Rules) (p:Place):Int:=if qdG r≠0 then qdG r else bif qhv r p then 3 else bif qei r p then 4 else 0

structure VR0 (r:Rules):Prop where
  w1:1≤r.width
  w8:r.width≤8
  h1:1≤r.height
  h8:r.height≤8
  t1:1≤r.pieces.length
  t6:r.pieces.length≤6
  hand:∀q∈r.pieces,0≤q.2.1∧q.2.1≤64
  prom:∀q∈r.pieces,0≤q.2.2.1∧q.2.2.1≤((r.pieces.length:Nat):Int)
  ways:∀q∈r.pieces,q.2.2.2.1.length≤16
  way:∀q∈r.pieces,∀w∈q.2.2.2.1,(-7≤w.1∧w.1≤7)∧(-7≤w.2.1∧w.2.1≤7)∧¬(w.1=0∧w.2.1=0)∧(1≤w.2.2.1∧w.2.2.1≤7)∧(0≤w.2.2.2.1∧w.2.2.2.1≤2)
  start:((r.start.length:Nat):Int)=r.width*r.height
  startC:∀c∈r.start,0≤c∧c≤2*((r.pieces.length:Nat):Int)
  ends6:r.ends.length≤6
  ends:∀x∈r.ends,(0≤x.1∧x.1≤2)∧(if x.1=1 then x.2.2.1=0 else 1≤x.2.2.1∧x.2.2.1≤64)∧(if x.1=0 then x.2.1=0 else 0≤x.2.1∧x.2.1≤((r.pieces.length:Nat):Int)-1)
  blocked:0≤r.blocked∧r.blocked≤2
  quiet:0≤r.quiet∧r.quiet≤200
  repeats:r.repeats=0∨(2≤r.repeats∧r.repeats≤5)
structure Valid (r:Rules) (p:Place):Prop where
  r0:VR0 r
  cells:((p.cells.length:Nat):Int)=r.width*r.height
  l0:p.h0.length=r.pieces.length
  l1:p.h1.length=r.pieces.length
  cell:∀c∈p.cells,0≤c∧c≤2*((r.pieces.length:Nat):Int)
  hand0:∀c∈p.h0,0≤c∧c≤1000
  hand1:∀c∈p.h1,0≤c∧c≤1000
  turn:p.turn=0∨p.turn=1
  quiet:0≤p.quiet∧p.quiet≤200

theorem qns {α:Type} {l:List α} {x:α} (h:x∈l):∃i,i<l.length∧l[i]?=some x:=by
  obtain⟨i,hi,e⟩:=List.mem_iff_getElem.1 h;exact⟨i,hi,by rw[List.getElem?_eq_getElem hi,e]⟩
theorem qgh {r:Rules} (h:qdG r=0):VR0 r:=by
  unfold qdG at h;split at h
  · cases h
  split at h
  · cases h
  rename_i _ h2;have h2:=Decidable.not_not.1 h2;split at h
  · cases h
  rename_i h3;split at h
  · cases h
  rename_i h4;split at h
  · rename_i h5;exact absurd h h5
  rename_i h5;have h5:=qe8 (Decidable.not_not.1 h5);split at h
  · cases h
  rename_i h6;have h6:=Decidable.not_not.1 h6;split at h
  · rename_i h7;exact absurd h h7
  rename_i h7;have h7:=qe8 (Decidable.not_not.1 h7);split at h
  · rename_i h8;exact absurd h h8
  rename_i h8;have h8:=Decidable.not_not.1 h8;unfold qf7 at h8;split at h8
  · cases h8
  rename_i h9;have h8:=qe8 h8;have hp:∀q∈r.pieces,(0≤q.2.1∧q.2.1≤64)∧(0≤q.2.2.1∧q.2.2.1≤((r.pieces.length:Nat):Int))∧q.2.2.2.1.length≤16∧q.2.2.2.1.any qh5=false:=fun q hq=>by
    obtain⟨i,hi,e⟩:=qns hq;have:=h5 i hi;unfold pErr at this;rw[e] at this;simp only at this;cases c1:(decide (q.1<65)||decide (q.1>90))
    · cases c2:(r.pieces.take i).any (fun q'=>q'.1==q.1)
      · cases c3:((!(qa q.2.1 0 64))||(!(qa q.2.2.1 0 ((r.pieces.length:Nat):Int))))
        · cases c4:decide (((q.2.2.2.1.length:Nat):Int)>16)
          · cases c5:q.2.2.2.1.any qh5
            · simp only[Bool.or_eq_false_iff,Bool.not_eq_false'] at c3;simp only[decide_eq_false_iff_not] at c4;exact⟨within_iff.1 c3.1,within_iff.1 c3.2,by omega,rfl⟩
            · simp[c1,c2,c3,c4,c5] at this
          · simp[c1,c2,c3,c4] at this
        · simp[c1,c2,c3] at this
      · simp[c1,c2] at this
    · simp[c1] at this
  refine⟨h2.1.1,h2.1.2,h2.2.1,h2.2.2,by omega,by omega,fun q hq=>(hp q hq).1,fun q hq=>(hp q hq).2.1,fun q hq=>(hp q hq).2.2.1,fun q hq w hw=>?_,h6,fun c hc=>?_,by omega,fun x hx=>?_,?_,?_,?_⟩
  · have:=(hp q hq).2.2.2;rw[List.any_eq_false] at this;have:=this w hw;unfold qh5 at this;simp only[Bool.not_eq_true,Bool.or_eq_false_iff,Bool.not_eq_false',within_iff,Bool.and_eq_false_iff,beq_eq_false_iff_ne] at this;refine⟨this.1.1.1.1,this.1.1.1.2,fun h=>?_,this.1.2,this.2⟩;rcases this.1.1.2 with h' | h'
    · exact h' h.1
    · exact h' h.2
  · obtain⟨i,hi,e⟩:=qns hc;have:=h7 i hi;unfold sErr at this;rw[List.getD_eq_getElem?_getD,e] at this;cases c1:qa c 0 (2*((r.pieces.length:Nat):Int))
    · simp[c1] at this
    · exact within_iff.1 c1
  · obtain⟨i,hi,e⟩:=qns hx;have:=h8 i hi;unfold eErr at this;rw[e] at this;simp only at this;cases c1:qa x.1 0 2
    · simp[c1] at this
    · cases c2:(!(bif x.1==1 then x.2.2.1==0 else qa x.2.2.1 1 64))||(!(bif x.1==0 then x.2.1==0 else qa x.2.1 0 (((r.pieces.length:Nat):Int)-1)))
      · simp only[Bool.or_eq_false_iff,Bool.not_eq_false'] at c2;refine⟨within_iff.1 c1,?_,?_⟩
        · have:=c2.1;by_cases e1:x.1=1
          · rw[if_pos e1];simpa[e1] using this
          · rw[if_neg e1];rw[beq_f e1,cond_false] at this;exact within_iff.1 this
        · have:=c2.2;by_cases e1:x.1=0
          · rw[if_pos e1];simpa[e1] using this
          · rw[if_neg e1];rw[beq_f e1,cond_false] at this;exact within_iff.1 this
      · simp[c1,c2] at this
  all_goals
    unfold qlc at h;cases c1:(((!(qa r.blocked (0:Int) (2:Int)))||(!(qa r.quiet (0:Int) (200:Int))))||((r.repeats !=(0:Int))&&(!(qa r.repeats (2:Int) (5:Int)))))
    · simp only[Bool.or_eq_false_iff,Bool.not_eq_false',within_iff,Bool.and_eq_false_iff,bne_eq_false_iff_eq] at c1
      first
      | exact c1.1.1
      | exact c1.1.2
      | exact c1.2
    · simp[c1] at h
theorem VR0.area {r:Rules} (h:VR0 r):1≤r.width*r.height∧r.width*r.height≤64:=by
  have h1:r.width*r.height≤8*8:=Int.mul_le_mul h.w8 h.h8 (by have:=h.h1;omega) (by omega);have h2:1*1≤r.width*r.height:=Int.mul_le_mul h.w1 h.h1 (by omega) (by have:=h.w1;omega);omega
theorem qpm (r:Rules) (p:Place) (hr:VR0 r) (hn:p.1.length≤9223372036854775807):qfr r p=some (bif qhv r p then 3 else bif qei r p then 4 else 0):=by
  have ha:=hr.area;have ht:=hr.t6;unfold qfr qhv;rw[show r.2.1*r.2.2.1=r.width*r.height from rfl,qd (n:=r.width*r.height) (by omega) (by omega)]
  cases hb:((((((p.1.length:Nat):Int)!=r.width*r.height)||(((p.2.1.1.length:Nat):Int)!=((r.2.2.2.1.length:Nat):Int)))||(((p.2.1.2.1.length:Nat):Int)!=((r.2.2.2.1.length:Nat):Int)))) with
  | true=>rfl
  | false =>
    simp only[Bool.or_eq_false_iff,bne_eq_false_iff_eq] at hb;obtain⟨⟨b1,b2⟩,b3⟩:=hb;have ht':r.2.2.2.1.length≤6:=ht;rw[cond_false,cond_false,concat2 _ _ (by omega) (by omega),Option.bind_some];unfold qei
    have hl2:(p.2.1.1++p.2.1.2.1).length≤2000:=by simp;omega
    show _=some (bif (p.1.any (outC r)||((p.2.1.1++p.2.1.2.1).any outH||outT p)) then(4:Int) else 0);generalize p.2.1.1++p.2.1.2.1=l at hl2;have i1:iterW (qbE p r l) (((0:Int),()),())=some (bif p.1.any (outC r) then .inr ((true,()),()) else .inl ((),())):=by
      refine qan p.1 (outC r) (qbE p r l) (.inr ((true,()),())) (.inl ((),())) (fun i hi=>?_) ?_
      · unfold qbE;simp only[show decide ((i:Int)<((p.1.length:Nat):Int))=true by simp;omega,cond_true];rw[at?_eq _ _ (by omega) (by omega)];simp only[Option.bind_some,Int.toNat_natCast,List.getElem?_eq_getElem hi];rw[qd (n:=(i:Int)+1) (by omega) (by omega),show decide ((i:Int)≥0)=true by simp];rw[qd (n:=(2:Int)*((r.2.2.2.1.length:Nat):Int)) (by omega) (by omega)];unfold outC;generalize (decide (p.1[i]<(0:Int))||decide (p.1[i]>((2:Int)*((r.2.2.2.1.length:Nat):Int))))=q
        cases q<;>rfl
      · unfold qbE;simp
    have i2:iterW (qbC l p) (((0:Int),()),())=some (bif l.any outH then .inr ((true,()),()) else .inl ((),())):=by
      refine qan l outH (qbC l p) (.inr ((true,()),())) (.inl ((),())) (fun i hi=>?_) ?_
      · unfold qbC;simp only[show decide ((i:Int)<((l.length:Nat):Int))=true by simp;omega,cond_true,Int.toNat_natCast,show inb (i:Int) l.length=true from inb_iff.2 ⟨by omega,by omega⟩,qg,show decide ((i:Int)≥0)=true by simp];rw[qd (n:=(i:Int)+1) (by omega) (by omega)]
        have e:getD' l i (0:Int)=l[i]:=by simp[getD',hi]
        have e':outH l[i]=(decide (getD' l i (0:Int)<(0:Int))||decide (getD' l i (0:Int)>(1000:Int))):=by rw[e];rfl
        rw[e'];generalize (decide (getD' l i (0:Int)<(0:Int))||decide (getD' l i (0:Int)>(1000:Int)))=q
        cases q<;>simp
      · unfold qbC;simp
    have e4:iterW (qgs p r l) (((0:Int),()),())=_:=i1;have e6:iterW (qgj l p) (((0:Int),()),())=_:=i2;simp only[i1,i2,e4,e6,agree_self,Option.bind_some];unfold outT;cases p.1.any (outC r)
    · cases l.any outH
      · simp only[cond_false,Sum.elim_inl,Option.bind_some,Bool.false_or];exact(qam _ _ _)
      · rfl
    · rfl
theorem qfC (r:Rules) (p:Place) (hr:Rng qee r) (hn:p.1.length≤9223372036854775807):qbV r p=some (qa4 r p):=by
  unfold qbV qa4;rw[qpn r hr,Option.bind_some];by_cases c:qdG r=0
  · rw[bne_f c,cond_false,if_neg (by simpa using c),qpm r p (qgh c) hn];rfl
  · rw[bne_t c,cond_true,if_pos c]
theorem qcT (r:Rules) (p:Place) (hr:Rng qee r) (hn:p.1.length≤9223372036854775807):qb3 r p=some (qa4 r p):=by
  unfold qb3 qa4;rw[qoR r hr,Option.bind_some];by_cases c:qdG r=0
  · have hv:=qgh c;have ha:=hv.area;have ht:r.2.2.2.1.length≤6:=hv.t6;rw[bne_f c,cond_false,if_neg (by simpa using c)];unfold qhv;rw[show r.2.1*r.2.2.1=r.width*r.height from rfl,qd (n:=r.width*r.height) (by omega) (by omega)]
    cases hb:((((((p.1.length:Nat):Int)!=r.width*r.height)||(((p.2.1.1.length:Nat):Int)!=((r.2.2.2.1.length:Nat):Int)))||(((p.2.1.2.1.length:Nat):Int)!=((r.2.2.2.1.length:Nat):Int)))) with
    | true=>rfl
    | false =>
      simp only[Bool.or_eq_false_iff,bne_eq_false_iff_eq] at hb;obtain⟨⟨b1,b2⟩,b3⟩:=hb;rw[cond_false,cond_false];have i1:∀b0,iterW (qbi p r) ((b0,(0:Int),()),())=some ((((b0&&p.1.all (fun d=>!outC r d)),()),())):=fun b0=>by
        refine qoA p.1 (fun d=>!outC r d) _ (fun b=>((b,()),())) b0 (fun i hi b=>?_) (fun b=>?_)
        · unfold qbi;simp only[show decide ((i:Int)<((p.1.length:Nat):Int))=true by simp;omega,cond_true];rw[at?_eq _ _ (by omega) (by omega),qd (n:=(i:Int)+1) (by omega) (by omega),qd (n:=(2:Int)*((r.2.2.2.1.length:Nat):Int)) (by omega) (by omega)];have:qu (p.1[(i:Int).toNat]'(by omega)) 0 (2*((r.2.2.2.1.length:Nat):Int)) = !outC r p.1[i]:=by
            unfold qu outC;rw[Bool.eq_iff_iff];simp
          rw[Option.bind_some,this]
        · unfold qbi;simp
      have i3:∀(x6:(Bool×Int×Unit)×Unit) (l:List Int) (b0:Bool),getD' [p.2.1.1,p.2.1.2.1] (x6.1.2.1).toNat []=l→l.length≤6→iterW (qbe p x6) ((b0,(0:Int),()),())=some ((((b0&&l.all (fun d=>!outH d)),()),())):=fun x6 l b0 hl hl6=>by
        refine qoA l (fun d=>!outH d) _ (fun b=>((b,()),())) b0 (fun i hi b=>?_) (fun b=>?_)
        · unfold qbe;rw[hl];simp only[show decide ((i:Int)<((l.length:Nat):Int))=true by simp;omega,cond_true];rw[at?_eq _ _ (by omega) (by omega),qd (n:=(i:Int)+1) (by omega) (by omega)];have:qu (l[(i:Int).toNat]'(by omega)) 0 1000 = !outH l[i]:=by
            unfold qu outH;rw[Bool.eq_iff_iff];simp
          rw[Option.bind_some,this]
        · unfold qbe;rw[hl];simp
      have i2:∀b0,iterW (qbk p) ((b0,(0:Int),()),())=some ((((b0&&p.2.1.1.all (fun d=>!outH d))&&p.2.1.2.1.all (fun d=>!outH d),()),())):=fun b0=>by
        rw[qs (y:=((b0&&p.2.1.1.all (fun d=>!outH d),(1:Int),()),())) (by
          unfold qbk;rw[i3 _ p.2.1.1 _ rfl (by omega)]
          rfl)]
        rw[qs (y:=((((b0&&p.2.1.1.all (fun d=>!outH d))&&p.2.1.2.1.all (fun d=>!outH d)),(2:Int),()),())) (by
          unfold qbk;rw[i3 _ p.2.1.2.1 _ rfl (by omega)]
          rfl)]
        exact qk rfl
      rw[i1,Option.bind_some,i2,Option.bind_some];have:(!((((qu p.2.2.1 (0:Int) (1:Int))&&(qu p.2.2.2.1 (0:Int) (200:Int)))&&p.1.all (fun d=>!outC r d))&&p.2.1.1.all (fun d=>!outH d)&&p.2.1.2.1.all (fun d=>!outH d)))=qei r p:=by
        have e1:(qu p.2.2.1 (0:Int) (1:Int)&&qu p.2.2.2.1 (0:Int) (200:Int)) = !outT p:=by
          unfold qu outT;rw[Bool.eq_iff_iff];simp only[Bool.and_eq_true,decide_eq_true_eq,Bool.not_eq_true',Bool.or_eq_false_iff,Bool.and_eq_false_iff,bne_eq_false_iff_eq,decide_eq_false_iff_not];show _↔(((p.2.2.1=0∨p.2.2.1=1)∧¬p.2.2.2.1<0)∧¬p.2.2.2.1>200);omega
        rw[e1];unfold qei;rw[←List.not_any_eq_all_not,←List.not_any_eq_all_not,←List.not_any_eq_all_not,List.any_append];show(!(!outT p && !p.1.any (outC r) && !p.2.1.1.any outH && !p.2.1.2.1.any outH))=(p.1.any (outC r)||(p.2.1.1.any outH||p.2.1.2.1.any outH||outT p))
        cases outT p<;>cases p.1.any (outC r)<;>cases p.2.1.1.any outH<;>cases p.2.1.2.1.any outH<;>rfl
      simp only[this];exact qam _ _ _
  · rw[bne_t c,cond_true,if_pos c]
theorem qlB {r:Rules} {p:Place} (h:qa4 r p=0):Valid r p:=by
  unfold qa4 at h;split at h
  · rename_i c;exact absurd h c
  rename_i c;have hv:=qgh (Decidable.not_not.1 c);cases c1:qhv r p
  · rw[c1,cond_false] at h;cases c2:qei r p
    · unfold qhv at c1;unfold qei outT at c2;simp only[Bool.or_eq_false_iff,bne_eq_false_iff_eq,List.any_eq_false,Bool.and_eq_false_iff,decide_eq_false_iff_not,List.mem_append,outC,outH,decide_eq_true_eq,Bool.not_eq_true] at c1 c2;obtain⟨⟨a1,a2⟩,a3⟩:=c1;obtain⟨b1,b2,⟨b3,b4⟩,b5⟩:=c2;exact⟨hv,a1,by omega,by omega,fun c hc=>by have:=b1 c hc;omega,fun c hc=>by have:=b2 c (.inl hc);omega,fun c hc=>by have:=b2 c (.inr hc);omega,b3,by omega⟩
    · rw[c2] at h;cases h
  · rw[c1] at h;cases h

abbrev RWay:=Int×Int×Int×Int×Unit
def cellI (p:Place) (s:Int):Int:=p.cells.getD s.toNat 0
def onB (r:Rules) (x y:Int):Bool:=decide (0≤x∧x<r.width∧0≤y∧y<r.height)
def sq (r:Rules) (x y:Int):Int:=y*r.width+x
def enemy (p:Place) (c:Int):Bool:=decide (c>0)&&((c-1).tmod 2 !=p.turn)
def mineB (p:Place) (c:Int):Bool:=decide (c>0)&&((c-1).tmod 2==p.turn)
def takes (p:Place) (w:RWay) (c:Int):Bool:=((c==0)&&(w.2.2.2.1 !=2))||(enemy p c&&(w.2.2.2.1 !=0))
def dyOf (p:Place) (w:RWay):Int:=if p.turn=1 then-w.2.1 else w.2.1
def wayL (r:Rules) (p:Place) (w:RWay):Nat→Int→Int→List Int
  | 0,_,_=>[]
  | n+1,x,y=>bif onB r (x+w.1) (y+dyOf p w) then(bif takes p w (cellI p (sq r (x+w.1) (y+dyOf p w))) then [sq r (x+w.1) (y+dyOf p w)] else [])++(bif cellI p (sq r (x+w.1) (y+dyOf p w))==0 then wayL r p w n (x+w.1) (y+dyOf p w) else []) else []
def wayS (r:Rules) (p:Place) (s:Int) (w:RWay):List Int:=wayL r p w w.2.2.1.toNat (s.tmod r.width) (s.tdiv r.width)

def WayOk (w:RWay):Prop:=(-7≤w.1∧w.1≤7)∧(-7≤w.2.1∧w.2.1≤7)∧¬(w.1=0∧w.2.1=0)∧(1≤w.2.2.1∧w.2.2.1≤7)∧(0≤w.2.2.2.1∧w.2.2.2.1≤2)
theorem Valid.wayOk {r:Rules} {p:Place} (h:Valid r p) {q:Piece} (hq:q∈r.pieces) {w:RWay} (hw:w∈q.2.2.2.1):WayOk w:=h.r0.way q hq w hw
theorem qoE {p:Place} {w:RWay} (h:WayOk w) : -7≤dyOf p w∧dyOf p w≤7:=by
  unfold dyOf;obtain⟨_,h1,_⟩:=h;split<;>omega
theorem dyOf_ne {p:Place} {w:RWay} (h:WayOk w):¬(w.1=0∧dyOf p w=0):=by
  unfold dyOf;obtain⟨_,h1,h2,_⟩:=h;split<;>omega
theorem onB_iff {r:Rules} {x y:Int}:onB r x y=true↔0≤x∧x<r.width∧0≤y∧y<r.height:=by simp[onB]
theorem qhS {y W H:Int} (hW:0≤W) (h0:0≤y) (h1:y<H):0≤y*W∧y*W≤W*H-W:=by
  refine⟨Int.mul_nonneg h0 hW,?_⟩;have:=Int.mul_le_mul_of_nonneg_right (show y≤H-1 by omega) hW;rw[Int.sub_mul,Int.one_mul,Int.mul_comm H W] at this;exact this
theorem qh6 {r:Rules} (hr:VR0 r) {x y:Int} (h:onB r x y=true):0≤sq r x y∧sq r x y<r.width*r.height:=by
  obtain⟨h1,h2,h3,h4⟩:=onB_iff.1 h;have:=qhS (show 0≤r.width by have:=hr.w1;omega) h3 h4;unfold sq;omega
theorem sq_inj {r:Rules} {x y x' y':Int} (h:onB r x y=true) (h':onB r x' y'=true) (e:sq r x y=sq r x' y'):x=x'∧y=y':=by
  obtain⟨h1,h2,h3,h4⟩:=onB_iff.1 h;obtain⟨g1,g2,g3,g4⟩:=onB_iff.1 h';unfold sq at e
  have hW:0<r.width:=by omega
  have ey:y=y':=by
    have a:(y*r.width+x) / r.width=y:=by rw[Int.add_comm,Int.add_mul_ediv_right _ _ (by omega),Int.ediv_eq_zero_of_lt h1 h2,Int.zero_add]
    have b:(y'*r.width+x') / r.width=y':=by rw[Int.add_comm,Int.add_mul_ediv_right _ _ (by omega),Int.ediv_eq_zero_of_lt g1 g2,Int.zero_add]
    rw[←a,←b,e]
  subst ey;exact⟨by omega,rfl⟩
theorem qbL {p:Place} {s:Int} (h0:0≤s) (h1:s<((p.cells.length:Nat):Int)):at? p.1 s=some (cellI p s):=by
  rw[at?_eq p.1 s h0 h1];unfold cellI;have h1':s<((p.1.length:Nat):Int):=h1;rw[List.getD_eq_getElem?_getD,List.getElem?_eq_getElem (by show s.toNat<p.1.length;omega)];rfl
theorem qox {r:Rules} {p:Place} (h:Valid r p) (s:Int):0≤cellI p s∧cellI p s≤2*((r.pieces.length:Nat):Int):=by
  unfold cellI;rw[List.getD_eq_getElem?_getD]
  cases e:p.cells[s.toNat]? with
  | none=>simp;omega
  | some c=>exact h.cell c (List.mem_of_getElem? e)
theorem qcJ {r:Rules} {p:Place} (h:Valid r p) (s:Int):0≤cellI p s∧cellI p s≤12:=by
  have:=qox h s;have:=h.r0.t6;omega
theorem qn0 (r:Rules) (p:Place) (w:RWay):∀(n:Nat) (x y:Int),(wayL r p w n x y).length≤n
  | 0,x,y=>by simp[wayL]
  | n+1,x,y=>by
    unfold wayL;have:=qn0 r p w n (x+w.1) (y+dyOf p w);cases onB r (x+w.1) (y+dyOf p w)
    · simp
    · cases takes p w (cellI p (sq r (x+w.1) (y+dyOf p w)))<;>cases (cellI p (sq r (x+w.1) (y+dyOf p w))==0)<;>simp<;>omega
theorem qkN {r:Rules} {p:Place} {w:RWay} {t:Int}:∀ {n:Nat} {x y:Int},t∈wayL r p w n x y→∃j:Int,1≤j∧onB r (x+j*w.1) (y+j*dyOf p w)=true∧t=sq r (x+j*w.1) (y+j*dyOf p w)
  | 0,x,y,h=>by simp[wayL] at h
  | n+1,x,y,h=>by
    unfold wayL at h
    cases hb:onB r (x+w.1) (y+dyOf p w) with
    | false=>simp[hb] at h
    | true =>
      rw[hb,cond_true] at h;rcases List.mem_append.1 h with h | h
      · refine⟨1,by omega,by simpa using hb,?_⟩
        cases ht:takes p w (cellI p (sq r (x+w.1) (y+dyOf p w)))<;>simp[ht] at h
        simpa using h
      · cases hc:(cellI p (sq r (x+w.1) (y+dyOf p w))==0)<;>simp[hc] at h
        obtain⟨j,h1,h2,h3⟩:=qkN h
        have e1:x+w.1+j*w.1=x+(j+1)*w.1:=by rw[Int.add_mul];omega
        have e2:y+dyOf p w+j*dyOf p w=y+(j+1)*dyOf p w:=by rw[Int.add_mul];omega
        rw[e1,e2] at h2 h3;exact⟨j+1,by omega,h2,h3⟩
theorem wayL_new {r:Rules} {p:Place} {w:RWay} (hw:WayOk w) {n:Nat} {x y:Int} (hb:onB r x y=true):sq r x y∉wayL r p w n x y:=fun h=>by
  obtain⟨j,h1,h2,h3⟩:=qkN h;obtain⟨e1,e2⟩:=sq_inj hb h2 h3
  have a:j*w.1=0:=by omega
  have b:j*dyOf p w=0:=by omega
  refine dyOf_ne (p:=p) hw ⟨?_,?_⟩
  · rcases Int.mul_eq_zero.1 a with h | h
    · omega
    · exact h
  · rcases Int.mul_eq_zero.1 b with h | h
    · omega
    · exact h
theorem qiA {r:Rules} {p:Place} (h:VR0 r) {w:RWay} {n:Nat} {x y t:Int} (ht:t∈wayL r p w n x y):0≤t∧t<r.width*r.height:=by
  obtain⟨j,h1,h2,h3⟩:=qkN ht;rw[h3];exact qh6 h h2
theorem qen {r:Rules} (hr:VR0 r) {s:Int} (h0:0≤s) (h1:s<r.width*r.height):(0≤s.tmod r.width∧s.tmod r.width<r.width)∧0≤s.tdiv r.width∧s.tdiv r.width<r.height:=by
  have hw:=hr.w1;rw[Int.tmod_eq_emod_of_nonneg h0,Int.tdiv_eq_ediv_of_nonneg h0];refine⟨⟨Int.emod_nonneg _ (by omega),Int.emod_lt_of_pos _ (by omega)⟩,Int.ediv_nonneg h0 (by omega),Int.ediv_lt_of_lt_mul (by omega) (by rw[Int.mul_comm];exact h1)⟩
theorem qoX {r:Rules} {p:Place} (h:Valid r p) {w:RWay} (hw:WayOk w) (s:Int) :
    ((((w.2.2.2.1==(0:Int))&&(cellI p s==(0:Int)))||((w.2.2.2.1==(1:Int))&&((cellI p s==(0:Int))||((decide (cellI p s>(0:Int)))&&(((w64 (cellI p s-(1:Int))).tmod (2:Int))!=p.2.2.1)))))||((w.2.2.2.1==(2:Int))&&((decide (cellI p s>(0:Int)))&&(((w64 (cellI p s-(1:Int))).tmod (2:Int))!=p.2.2.1))))=takes p w (cellI p s):=by
  have hc:=qcJ h s;rw[qd (n:=cellI p s-1) (by omega) (by omega)];obtain⟨_,_,_,_,h5⟩:=hw
  have h6:w.2.2.2.1=0∨w.2.2.2.1=1∨w.2.2.2.1=2:=by omega
  unfold takes enemy;rw[show p.turn=p.2.2.1 from rfl];generalize hA:(cellI p s==0)=A;have hA':A=true→decide (cellI p s>0)=false:=fun h=>by
    subst hA;rw[beq_iff_eq] at h;simp[h]
  generalize decide (cellI p s>0)=B at hA';generalize ((cellI p s-1).tmod 2 !=p.2.2.1)=C
  rcases h6 with h6 | h6 | h6<;>rw[h6]<;>cases A<;>cases B<;>cases C<;>simp_all
theorem qoL {r:Rules} {p:Place} (h:Valid r p) {w:RWay} (hw:WayOk w):∀(n:Nat) (out:List Int) (x y k:Int),0≤k→k+n=w.2.2.1→out.length≤k.toNat→(0≤x∧x<r.width)→(0≤y∧y<r.height) →
    iterW (qbW w r ((dyOf p w,()),()) p) ((out,x,y,k,()),())=some ((out++wayL r p w n x y,()),())
  | 0,out,x,y,k,h0,hk,ho,hx,hy=>by
    refine qk ?_;unfold qbW
    have:decide (k<w.2.2.1)=false:=by simp;omega
    simp only[this,cond_false,wayL,List.append_nil]
  | n+1,out,x,y,k,h0,hk,ho,hx,hy=>by
    have hr:=h.r0;have hd:=qoE (p:=p) hw;obtain⟨hdx,_,_,hm,_⟩:=hw;have:=hr.w8;have:=hr.h8;have:=hr.w1;have:=hr.h1;have ha:=hr.area
    have hlt:decide (k<w.2.2.1)=true:=by simp;omega
    have wx:w64 (x+w.1)=x+w.1:=qd (by omega) (by omega);have wy:w64 (y+dyOf p w)=y+dyOf p w:=qd (by omega) (by omega);have wk:w64 (k+1)=k+1:=qd (by omega) (by omega);have hoff:((((decide (x+w.1<(0:Int)))||(decide (x+w.1≥r.2.1)))||(decide (y+dyOf p w<(0:Int))))||(decide (y+dyOf p w≥r.2.2.1))) = !onB r (x+w.1) (y+dyOf p w):=by
      rw[Bool.eq_iff_iff];simp only[Bool.or_eq_true,decide_eq_true_eq,Bool.not_eq_true',onB,decide_eq_false_iff_not];show((x+w.1<0∨x+w.1≥r.width)∨y+dyOf p w<0)∨y+dyOf p w≥r.height↔_;omega
    unfold wayL
    cases hb:onB r (x+w.1) (y+dyOf p w) with
    | false =>
      refine qk ?_;unfold qbW;simp only[hlt,cond_true,wx,wy,hoff,hb,Bool.not_false,cond_false,List.append_nil]
    | true =>
      have hs:=qh6 hr hb;obtain⟨b1,b2,b3,b4⟩:=onB_iff.1 hb;have hmul:=qhS (show 0≤r.width by omega) b3 b4;have w1:w64 ((y+dyOf p w)*r.2.1)=(y+dyOf p w)*r.2.1:=qd (by show _≤(y+dyOf p w)*r.width;omega) (by show(y+dyOf p w)*r.width≤_;omega);have w2:w64 ((y+dyOf p w)*r.2.1+(x+w.1))=sq r (x+w.1) (y+dyOf p w):=qd (by show _≤sq r (x+w.1) (y+dyOf p w);omega) (by show sq r (x+w.1) (y+dyOf p w)≤_;omega);have hat:=qbL (p:=p) hs.1 (by rw[h.cells];exact hs.2);have hlen:=h.cells
      have hstep:qbW w r ((dyOf p w,()),()) p ((out,x,y,k,()),())=(bif cellI p (sq r (x+w.1) (y+dyOf p w))!=0 then some (.inr ((out++(bif takes p w (cellI p (sq r (x+w.1) (y+dyOf p w))) then [sq r (x+w.1) (y+dyOf p w)] else []),()),())) else some (.inl ((out++(bif takes p w (cellI p (sq r (x+w.1) (y+dyOf p w))) then [sq r (x+w.1) (y+dyOf p w)] else []),x+w.1,y+dyOf p w,k+1,()),()))):=by
        unfold qbW
        simp only[hlt,cond_true,wx,wy,hoff,hb,Bool.not_true,cond_false,w1,w2,wk,hat,Option.bind_some,qoX h ⟨hdx,‹_›,‹_›,hm,‹_›⟩,show ∀b,imp b true=true from fun b=>by cases b<;>rfl,qg]
        have hroom:room (out.length+[sq r (x+w.1) (y+dyOf p w)].length) 8=true:=qb2 (by simp;omega);cases takes p w (cellI p (sq r (x+w.1) (y+dyOf p w)))
        · simp
        · simp only[cond_true,hroom,qg,Option.bind_some]
      cases hc:(cellI p (sq r (x+w.1) (y+dyOf p w))==0) with
      | true =>
        have hne:(cellI p (sq r (x+w.1) (y+dyOf p w))!=0)=false:=by simp only[bne,hc];rfl
        rw[hne,cond_false] at hstep
        rw[qs hstep,qoL h ⟨hdx,‹_›,‹_›,hm,‹_›⟩ n _ (x+w.1) (y+dyOf p w) (k+1) (by omega) (by omega) (by
          have:(bif takes p w (cellI p (sq r (x+w.1) (y+dyOf p w))) then [sq r (x+w.1) (y+dyOf p w)] else []).length≤1:=by cases takes p w (cellI p (sq r (x+w.1) (y+dyOf p w)))<;>simp
          rw[List.length_append];omega) ⟨b1,b2⟩ ⟨b3,b4⟩]
        simp[List.append_assoc]
      | false =>
        have hne:(cellI p (sq r (x+w.1) (y+dyOf p w))!=0)=true:=by simp only[bne,hc];rfl
        rw[hne,cond_true] at hstep;rw[qk hstep];simp
theorem way_spec {r:Rules} {p:Place} (h:Valid r p) {w:RWay} (hw:WayOk w) {s:Int} (h0:0≤s) (h1:s<r.width*r.height):qis r p s w=some (wayS r p s w):=by
  have hr:=h.r0;have hd:=qen hr h0 h1;have:=hr.w8;have:=hr.h8;have:=hr.w1;have:=hr.h1;obtain⟨hdx,hdy,hnz,hm,htk⟩:=id hw;unfold qis wayS;have hq:(r.2.1 !=0)=true:=bne_t (by show ¬r.width=0;omega);have wdy:(bif (p.2.2.1==(1:Int)) then some (((w64 (0-w.2.1)),()),()) else some ((w.2.1,()),()))=some ((dyOf p w,()),()):=by
    unfold dyOf;by_cases e:p.turn=1
    · rw[if_pos e,beq_t e,cond_true,qd (by omega) (by omega)];simp
    · rw[if_neg e,beq_f e,cond_false]
  have wq:w64 (s.tdiv r.2.1)=s.tdiv r.2.1:=qd (by show _≤s.tdiv r.width;omega) (by show s.tdiv r.width≤_;omega);rw[wdy,Option.bind_some,hq,qg,qg,wq,qoL h hw w.2.2.1.toNat [] _ _ 0 (by omega) (by omega) (by simp) hd.1 hd.2];simp
theorem mulb {k d:Int} (h0:0≤k) (h8:k≤8) (d0 : -7≤d) (d7:d≤7) : -56≤k*d∧k*d≤56:=by
  have:k=0∨k=1∨k=2∨k=3∨k=4∨k=5∨k=6∨k=7∨k=8:=by omega
  rcases this with rfl | rfl | rfl | rfl | rfl | rfl | rfl | rfl | rfl<;>omega
theorem qkD {r:Rules} {p:Place} (h:Valid r p) (x y:Int):qkv r p x y=some (bif onB r x y then cellI p (sq r x y) else -1):=by
  have hr:=h.r0;have:=hr.w8;have:=hr.h8;have:=hr.w1;have:=hr.h1;have ha:=hr.area;unfold qkv;rw[qd (n:=r.2.1-1) (by show _≤r.width-1;omega) (by show r.width-1≤_;omega),qd (n:=r.2.2.1-1) (by show _≤r.height-1;omega) (by show r.height-1≤_;omega)];have e:((!(qu x (0:Int) (r.2.1-1)))||(!(qu y (0:Int) (r.2.2.1-1)))) = !onB r x y:=by
    unfold qu onB;rw[Bool.eq_iff_iff];simp only[Bool.or_eq_true,Bool.not_eq_true',Bool.and_eq_false_iff,decide_eq_false_iff_not];show((¬x≥0∨¬x≤r.width-1)∨(¬y≥0∨¬y≤r.height-1))↔_;omega
  rw[e]
  cases hb:onB r x y with
  | false=>rfl
  | true =>
    have hs:=qh6 hr hb;obtain⟨b1,b2,b3,b4⟩:=onB_iff.1 hb;have hmul:=qhS (show 0≤r.width by omega) b3 b4;have w1:w64 (y*r.2.1)=y*r.2.1:=qd (by show _≤y*r.width;omega) (by show y*r.width≤_;omega);have w2:w64 (y*r.2.1+x)=sq r x y:=qd (by show _≤sq r x y;omega) (by show sq r x y≤_;omega);rw[w1,w2,qbL (p:=p) hs.1 (by rw[h.cells];exact hs.2)];rfl
theorem qeO (c pl:Int) (h0:0≤c) (h1:c≤12):qdi c pl=some (decide (c>0)&&((c-1).tmod 2==pl)):=by
  unfold qdi;rw[qd (n:=c-1) (by omega) (by omega)]
  cases decide (c>0)<;>rfl
theorem enemy_ref {r:Rules} {p:Place} (h:Valid r p) {c:Int} (h0:0≤c):(decide (c>0)&&((c-1).tmod 2==1-p.turn))=enemy p c:=by
  unfold enemy;by_cases hc:c>0
  · have:(c-1).tmod 2=0∨(c-1).tmod 2=1:=by rw[Int.tmod_eq_emod_of_nonneg (by omega)];omega
    have ht:=h.turn;rw[decide_eq_true hc,Bool.true_and,Bool.true_and,Bool.eq_iff_iff,beq_iff_eq,bne_iff_ne];show _↔¬_;omega
  · simp[hc]
theorem qkb {r:Rules} {p:Place} (h:Valid r p) {w:RWay} (hw:WayOk w) {s t:Int} (h0:0≤s) (h1:s<r.width*r.height):∀(n:Nat) (k:Int),1≤k→k+n=w.2.2.1+1 →
    (Option.bind (α:=((Unit)×(Unit)) ⊕ Bool) (iterW (qaB w r p s t) ((k,()),())) (Sum.elim (fun x4=>some false) some))=some (decide (t∈wayL r p w n (s.tmod r.width+(k-1)*w.1) (s.tdiv r.width+(k-1)*dyOf p w)))
  | 0,k,hk,hn=>by
    rw[qk (r := .inl ((),())) (by
      unfold qaB
      have:decide (k≤w.2.2.1)=false:=by simp;omega
      simp only[this,cond_false])]
    simp[wayL]
  | n+1,k,hk,hn=>by
    have hr:=h.r0;have hd:=qoE (p:=p) hw;obtain⟨hdx,hdy,hnz,hm,htk⟩:=id hw;have:=hr.w8;have:=hr.h8;have:=hr.w1;have:=hr.h1;have ha:=hr.area;have hdr:=qen hr h0 h1
    have hlt:decide (k≤w.2.2.1)=true:=by simp;omega
    have m1:=mulb (k:=k) (by omega) (by omega) hdx.1 hdx.2;have m2:=mulb (k:=k) (by omega) (by omega) hdy.1 hdy.2;have m3:=mulb (k:=k) (by omega) (by omega) hd.1 hd.2;have ht:=h.turn;have wu:w64 ((1:Int)-(w64 ((2:Int)*p.2.2.1)))=1-2*p.turn:=by
      rw[qd (n:=(2:Int)*p.2.2.1) (by show _≤2*p.turn;omega) (by show 2*p.turn≤_;omega)];exact qd (by show _≤1-2*p.turn;omega) (by show 1-2*p.turn≤_;omega)
    have eup:k*w.2.1*(1-2*p.turn)=k*dyOf p w:=by
      unfold dyOf;rcases ht with e | e
      · rw[e,if_neg (by omega)];simp
      · rw[e,if_pos rfl];simp[Int.mul_neg]
    have wq:w64 (s.tdiv r.2.1)=s.tdiv r.2.1:=qd (by show _≤s.tdiv r.width;omega) (by show s.tdiv r.width≤_;omega);have wkx:w64 (k*w.1)=k*w.1:=qd (by omega) (by omega);have wky:w64 (k*w.2.1)=k*w.2.1:=qd (by omega) (by omega)
    have wky2:w64 (k*w.2.1*(1-2*p.turn))=k*dyOf p w:=by rw[eup];exact qd (by omega) (by omega)
    obtain⟨X,hX⟩:∃X,X=s.tmod r.width+k*w.1:=⟨_,rfl⟩;obtain⟨Y,hY⟩:∃Y,Y=s.tdiv r.width+k*dyOf p w:=⟨_,rfl⟩
    have wx:w64 (s.tmod r.2.1+k*w.1)=X:=by rw[hX];exact qd (by show _≤s.tmod r.width+k*w.1;omega) (by show s.tmod r.width+k*w.1≤_;omega)
    have wy:w64 (s.tdiv r.2.1+k*dyOf p w)=Y:=by rw[hY];exact qd (by show _≤s.tdiv r.width+k*dyOf p w;omega) (by show s.tdiv r.width+k*dyOf p w≤_;omega)
    have wt:w64 (1-p.2.2.1)=1-p.turn:=qd (by show _≤1-p.turn;omega) (by show 1-p.turn≤_;omega)
    have ex:s.tmod r.width+(k-1)*w.1+w.1=X:=by rw[hX,Int.sub_mul];omega
    have ey:s.tdiv r.width+(k-1)*dyOf p w+dyOf p w=Y:=by rw[hY,Int.sub_mul];omega
    unfold wayL;rw[ex,ey];have hAt:=qkD h X Y
    cases hb:onB r X Y with
    | false =>
      rw[hb,cond_false] at hAt
      rw[qk (r := .inr false) (by
        unfold qaB;simp only[hlt,cond_true,wkx,wky,wu,wky2,wq,wx,wy,hAt,Option.bind_some]
        rfl)]
      simp
    | true =>
      rw[hb,cond_true] at hAt;have hs:=qh6 hr hb;obtain⟨b1,b2,b3,b4⟩:=onB_iff.1 hb;have hmul:=qhS (show 0≤r.width by omega) b3 b4;have hc:=qcJ h (sq r X Y)
      have hneg:decide (cellI p (sq r X Y)<0)=false:=by simp;omega
      have w1:w64 (Y*r.2.1)=Y*r.2.1:=qd (by show _≤Y*r.width;omega) (by show Y*r.width≤_;omega);have w2:w64 (w64 (Y*r.2.1+s.tmod r.2.1)+k*w.1)=sq r X Y:=by
        rw[qd (n:=Y*r.2.1+s.tmod r.2.1) (by show _≤Y*r.width+s.tmod r.width;omega) (by show Y*r.width+s.tmod r.width≤_;omega)]
        have e:Y*r.2.1+s.tmod r.2.1+k*w.1=sq r X Y:=by show Y*r.width+s.tmod r.width+k*w.1=_;unfold sq;omega
        rw[e];exact qd (by omega) (by omega)
      have hmine:=qeO (cellI p (sq r X Y)) (1-p.turn) hc.1 hc.2;rw[enemy_ref h hc.1] at hmine;by_cases ht':sq r X Y=t
      · rw[qk (r := .inr (takes p w (cellI p (sq r X Y)))) (by
          unfold qaB;simp only[hlt,cond_true,wkx,wky,wu,wky2,wq,wx,wy,hAt,Option.bind_some,hneg,cond_false,w1,w2,beq_t ht',wt,hmine]
          rfl)]
        subst ht';have hnew:=wayL_new (p:=p) hw (n:=n) hb;rw[Option.bind_some,Sum.elim_inr,cond_true,Option.some.injEq];cases takes p w (cellI p (sq r X Y))
        · cases (cellI p (sq r X Y)==0)<;>simp[hnew]
        · simp
      · cases hz:(cellI p (sq r X Y)==0) with
        | false =>
          have hne:(cellI p (sq r X Y)!=0)=true:=by simp only[bne,hz];rfl
          rw[qk (r := .inr false) (by
            unfold qaB
            simp only[hlt,cond_true,wkx,wky,wu,wky2,wq,wx,wy,hAt,Option.bind_some,hneg,cond_false,w1,w2,beq_f ht',hne])]
          rw[Option.bind_some,Sum.elim_inr,cond_true,Option.some.injEq]
          cases takes p w (cellI p (sq r X Y))<;>simp[Ne.symm ht']
        | true =>
          have hne:(cellI p (sq r X Y)!=0)=false:=by simp only[bne,hz];rfl
          rw[qs (y:=((k+1,()),())) (by
            unfold qaB
            simp only[hlt,cond_true,wkx,wky,wu,wky2,wq,wx,wy,hAt,Option.bind_some,hneg,cond_false,w1,w2,beq_f ht',hne,qd (n:=k+1) (by omega) (by omega)])]
          rw[qkb h hw h0 h1 n (k+1) (by omega) (by omega),cond_true,cond_true,show k+1-1=k by omega,←hX,←hY];congr 1
          cases takes p w (cellI p (sq r X Y))<;>simp
          exact fun e=>absurd e.symm ht'
theorem qps {r:Rules} {p:Place} (h:Valid r p) {w:RWay} (hw:WayOk w) {s t:Int} (h0:0≤s) (h1:s<r.width*r.height):qeg r p s t w=some (decide (t∈wayS r p s w)):=by
  have hr:=h.r0;have:=hr.w1;have hq:(r.2.1 !=0)=true:=bne_t (by show ¬r.width=0;omega);unfold qeg wayS;obtain⟨_,_,_,hm,_⟩:=id hw;rw[hq,qg,qg,qkb h hw h0 h1 w.2.2.1.toNat 1 (by omega) (by omega)];simp

theorem qiF (x y:Mv):mvLt x y=true↔x.1<y.1∨x.1=y.1∧(x.2.1<y.2.1∨x.2.1=y.2.1∧x.2.2.1<y.2.2.1):=by simp[mvLt]
theorem lt_f (x y:Mv):mvLt x y=false↔¬(x.1<y.1∨x.1=y.1∧(x.2.1<y.2.1∨x.2.1=y.2.1∧x.2.2.1<y.2.2.1)):=by rw[←qiF,Bool.not_eq_true]
theorem mv_eq {x y:Mv} (h1:x.1=y.1) (h2:x.2.1=y.2.1) (h3:x.2.2.1=y.2.2.1):x=y:=by
  obtain⟨a,b,c,⟨⟩⟩:=x;obtain⟨a',b',c',⟨⟩⟩:=y;simp only at h1 h2 h3;subst h1 h2 h3;rfl
theorem mv_beq (x y:Mv):((x.1==y.1)&&((x.2.1==y.2.1)&&((x.2.2.1==y.2.2.1)&&true)))=decide (x=y):=by
  rw[Bool.eq_iff_iff];simp only[Bool.and_eq_true,beq_iff_eq,decide_eq_true_eq,and_true];constructor
  · rintro ⟨h1,h2,h3⟩;exact mv_eq h1 h2 h3
  · rintro rfl;exact⟨rfl,rfl,rfl⟩

def dd1 (a:Mv):List Mv→List Mv
  | []=>[]
  | x::xs=>if x=a then dd1 a xs else x::dd1 x xs
def dd:List Mv→List Mv
  | []=>[]
  | x::xs=>x::dd1 x xs
theorem qlo (y:Mv):∀(l:List Mv) (a:Mv),dd1 a (l++[y])=dd1 a l++(if (a::l).getLast (by simp)=y then [] else [y])
  | [],a=>by simp only[List.nil_append,dd1,List.getLast_singleton];by_cases h:y=a<;>simp[h,eq_comm]
  | x::xs,a=>by
    simp only[List.cons_append,dd1];by_cases h:x=a
    · subst h;rw[if_pos rfl,if_pos rfl,qlo y xs x];congr 2
    · rw[if_neg h,if_neg h,qlo y xs x,List.cons_append];congr 2
theorem dd_snoc {l:List Mv} (hl:l≠[]) (y:Mv):dd (l++[y])=dd l++(if l.getLast hl=y then [] else [y]):=by
  cases l with
  | nil=>exact absurd rfl hl
  | cons x xs=>simp only[List.cons_append,dd,qlo]
theorem qlj (z:Mv):∀(l:List Mv) (a:Mv),z∈a::dd1 a l↔z∈a::l
  | [],a=>by simp[dd1]
  | x::xs,a=>by
    simp only[dd1];by_cases h:x=a
    · subst h;rw[if_pos rfl,qlj z xs x];simp
    · rw[if_neg h,List.mem_cons,qlj z xs x,←List.mem_cons]
theorem dd_mem (z:Mv) (l:List Mv):z∈dd l↔z∈l:=by
  cases l with
  | nil=>simp[dd]
  | cons x xs=>exact qlj z xs x
theorem dd1_lt:∀(l:List Mv) (a:Mv),(a::l).Pairwise (fun x y=>(!mvLt y x)=true)→(a::dd1 a l).Pairwise (fun x y=>mvLt x y=true)
  | [],a,h=>by simp[dd1]
  | x::xs,a,h=>by
    simp only[dd1];rw[List.pairwise_cons] at h;by_cases e:x=a
    · subst e;rw[if_pos rfl];exact dd1_lt xs x h.2
    · rw[if_neg e,List.pairwise_cons];refine⟨fun z hz=>?_,dd1_lt xs x h.2⟩;have hz':=(qlj z xs x).1 hz;have h1:=h.1 x (by simp);have hax:mvLt a x=true:=by
        rw[Bool.not_eq_true',lt_f] at h1;rw[qiF];by_cases c1:a.1=x.1
        · by_cases c2:a.2.1=x.2.1
          · by_cases c3:a.2.2.1=x.2.2.1
            · exact absurd (mv_eq c1 c2 c3).symm e
            · omega
          · omega
        · omega
      rcases List.mem_cons.1 hz' with rfl | hz2
      · exact hax
      · have h2:=(List.pairwise_cons.1 h.2).1 z hz2;rw[Bool.not_eq_true',lt_f] at h2;rw[qiF] at hax ⊢;omega
theorem dd_lt {l:List Mv} (h:l.Pairwise (fun x y=>(!mvLt y x)=true)):(dd l).Pairwise (fun x y=>mvLt x y=true):=by
  cases l with
  | nil=>simp[dd]
  | cons x xs=>exact dd1_lt xs x h
theorem sort_pw (l:List Mv):(qba l).Pairwise (fun x y=>(!mvLt y x)=true):=by
  unfold qba;apply List.pairwise_mergeSort
  · intro a b c h1 h2;rw[Bool.not_eq_true',lt_f] at *;omega
  · intro a b;rw[Bool.or_eq_true,Bool.not_eq_true',Bool.not_eq_true',lt_f,lt_f];omega
theorem sort_mem (z:Mv) (l:List Mv):z∈qba l↔z∈l:=(List.mergeSort_perm l _).mem_iff
theorem sort_len (l:List Mv):(qba l).length=l.length:=List.length_mergeSort l
theorem lt_irrefl (x:Mv):mvLt x x=false:=by rw[lt_f];omega
theorem qmz:∀ {l m:List Mv},l.Pairwise (fun x y=>mvLt x y=true)→m.Pairwise (fun x y=>mvLt x y=true)→(∀z,z∈l↔z∈m)→l=m
  | [],[],_,_,_=>rfl
  | [],y::m,_,_,h=>by have:=(h y).2 (by simp);simp at this
  | x::l,[],_,_,h=>by have:=(h x).1 (by simp);simp at this
  | x::l,y::m,hl,hm,h=>by
    rw[List.pairwise_cons] at hl hm;have e:x=y:=by
      rcases List.mem_cons.1 ((h x).1 (by simp)) with e | e
      · exact e
      · rcases List.mem_cons.1 ((h y).2 (by simp)) with e2 | e2
        · exact e2.symm
        · have a:=hm.1 x e;have b:=hl.1 y e2;rw[qiF] at a b;omega
    subst e;congr 1;refine qmz hl.2 hm.2 fun z=>⟨fun hz=>?_,fun hz=>?_⟩
    · rcases List.mem_cons.1 ((h z).1 (by simp[hz])) with e | e
      · subst e;have:=hl.1 z hz;rw[lt_irrefl] at this;cases this
      · exact e
    · rcases List.mem_cons.1 ((h z).2 (by simp[hz])) with e | e
      · subst e;have:=hm.1 z hz;rw[lt_irrefl] at this;cases this
      · exact e

abbrev d0:Mv:=((0:Int),((0:Int),((0:Int),())))
theorem qn5 {xs:List Mv} {j:Nat} (h:j<xs.length):xs.take (j+1)=xs.take j++[getD' xs j d0]:=by
  rw[List.take_succ_eq_append_getElem h];simp[getD',h]
theorem dd_take {xs:List Mv} {j:Nat} (h:j<xs.length) (hj:1≤j):dd (xs.take (j+1))=dd (xs.take j)++(if getD' xs (j-1) d0=getD' xs j d0 then [] else [getD' xs j d0]):=by
  have hne:xs.take j≠[]:=by
    intro e;have:=congrArg List.length e;rw[List.length_take] at this;simp only[List.length_nil] at this;omega
  rw[qn5 h,dd_snoc hne];have:(xs.take j).getLast hne=getD' xs (j-1) d0:=by
    rw[List.getLast_eq_getElem];simp only[List.getElem_take,List.length_take,getD'];rw[List.getD_eq_getElem?_getD,List.getElem?_eq_getElem (by omega)];simp only[Option.getD_some];congr 1;omega
  rw[this]
theorem compact5 (xs:List Mv) (k0:Nat) (hk0:1≤k0) (hk1:k0<xs.length) (hx:xs.length≤1000000) (hd:dd (xs.take (k0+1))=xs.take k0) :
    ∃r,iterW (qfi (((k0:Int),()),(xs,()))) (((k0:Int),(1:Int),()),(xs,()))=some r∧(∃k:Nat,r.1.1=(k:Int)∧k≤xs.length∧r.2.1.length=xs.length∧r.2.1.take k=dd xs):=by
  refine qhA (fun x=>∃(k k2:Nat),x.1.1=(k:Int)∧x.1.2.1=(k2:Int)∧1≤k2∧k0+k2≤xs.length∧k0≤k∧k+1≤k0+k2∧x.2.1.length=xs.length∧(∀j,k0+k2≤j+1→getD' x.2.1 j d0=getD' xs j d0)∧x.2.1.take k=dd (xs.take (k0+k2))) (fun x=>xs.length-x.1.2.1.toNat) _ ?_ _ ⟨k0,1,rfl,rfl,by omega,by omega,by omega,by omega,rfl,fun _ _=>rfl,by rw[hd]⟩
  rintro ⟨⟨k,k2,⟨⟩⟩,ys,⟨⟩⟩ ⟨K,K2,e1,e2,h1,h2,h3,h4,h5,h6,h7⟩
  simp only at e1 e2 h5 h6 h7;subst e1 e2;unfold qfi;simp only[Int.toNat_natCast];by_cases hlt:K2<xs.length-k0
  · left
    have c1:decide ((K2:Int)<((xs.length-k0:Nat):Int))=true:=by simp;omega
    have c2:inb (K2:Int) (xs.length-k0)=true:=inb_iff.2 ⟨by omega,by omega⟩
    have w1:w64 ((K2:Int)-1)=((K2-1:Nat):Int):=by rw[qd (by omega) (by omega)];omega
    have c3:inb ((K2-1:Nat):Int) (xs.length-k0)=true:=inb_iff.2 ⟨by omega,by omega⟩
    have w2:w64 ((K2:Int)+1)=((K2+1:Nat):Int):=by rw[qd (by omega) (by omega)];omega
    have w3:w64 ((K:Int)+1)=((K+1:Nat):Int):=by rw[qd (by omega) (by omega)];omega
    have c4:inb (K:Int) ys.length=true:=inb_iff.2 ⟨by omega,by omega⟩;have g1:getD' ys (k0+K2) d0=getD' xs (k0+K2) d0:=h6 _ (by omega);have g2:getD' ys (k0+(K2-1)) d0=getD' xs (k0+(K2-1)) d0:=h6 _ (by omega);have hdd:=dd_take (xs:=xs) (j:=k0+K2) (by omega) (by omega);simp only[c1,cond_true,c2,qg,w1,Int.toNat_natCast,c3,w2,w3,c4,mv_beq,g1,g2];by_cases he:getD' xs (k0+K2) d0=getD' xs (k0+(K2-1)) d0
    · refine⟨(((K:Int),((K2+1:Nat):Int),()),(ys,())),by simp[he],⟨K,K2+1,rfl,rfl,by omega,by omega,by omega,by omega,h5,fun j hj=>h6 j (by omega),?_⟩,by simp;omega⟩;rw[show k0+(K2+1)=k0+K2+1 by omega,hdd,if_pos (by rw[he];congr 1;omega),List.append_nil];exact h7
    · refine⟨((((K+1:Nat):Int),((K2+1:Nat):Int),()),(ys.set K (getD' xs (k0+K2) d0),())),by simp[he],⟨K+1,K2+1,rfl,rfl,by omega,by omega,by omega,by omega,by simp[h5],fun j hj=>?_,?_⟩,by simp;omega⟩
      · rw[←h6 j (by omega)];simp only[getD'];simp only[List.getD_eq_getElem?_getD];rw[List.getElem?_set_ne (by omega)]
      · rw[show k0+(K2+1)=k0+K2+1 by omega,hdd,if_neg (by intro e;apply he;rw[←e];congr 1;omega),←h7];rw[List.take_succ_eq_append_getElem (by simp;omega)];simp[List.take_set_of_le]
  · right
    have c1:decide ((K2:Int)<((xs.length-k0:Nat):Int))=false:=by simp;omega
    refine⟨(((K:Int),()),(ys,())),by simp only[c1,cond_false],K,rfl,by omega,h5,?_⟩;rw[h7,show k0+K2=xs.length by omega,List.take_length]
theorem compact4 (xs:List Mv) (hx:xs.length≤1000000) (h2:2≤xs.length) :
    (Option.bind (α:=((Unit)×((List Mv)×Unit)) ⊕ (((List Mv)×Unit)×(Unit))) (iterW qdh (((1:Int),()),(xs,()))) (Sum.elim (fun x23=>some ((x23.2.1,()),())) some))=some ((dd xs,()),()):=by
  obtain⟨r,hr,hq⟩:=qhA (f:=qdh) (fun x=>∃k:Nat,x=(((k:Int),()),(xs,()))∧1≤k∧k≤xs.length∧dd (xs.take k)=xs.take k) (fun x=>xs.length-x.1.1.toNat) (fun r=>r = .inl ((),(xs,()))∧dd xs=xs∨r = .inr ((dd xs,()),())) (by
    rintro x ⟨k,rfl,h1,h3,h4⟩
    unfold qdh;simp only[Int.toNat_natCast];by_cases hlt:k<xs.length
    · have c1:decide ((k:Int)<((xs.length:Nat):Int))=true:=by simp;omega
      have c2:inb (k:Int) xs.length=true:=inb_iff.2 ⟨by omega,by omega⟩
      have w1:w64 ((k:Int)-1)=((k-1:Nat):Int):=by rw[qd (by omega) (by omega)];omega
      have c3:inb ((k-1:Nat):Int) xs.length=true:=inb_iff.2 ⟨by omega,by omega⟩
      have w2:w64 ((k:Int)+1)=((k+1:Nat):Int):=by rw[qd (by omega) (by omega)];omega
      have c4:qY (k:Int) ((xs.length:Nat):Int) xs.length=true:=by simp[qY];omega
      have hdd:=dd_take hlt h1;simp only[c1,cond_true,c2,qg,w1,Int.toNat_natCast,c3,c4,mv_beq];by_cases he:getD' xs k d0=getD' xs (k-1) d0
      · right;rw[if_pos he.symm,List.append_nil,h4] at hdd;obtain⟨r,hr,K,e1,e2,e3,e4⟩:=compact5 xs k h1 hlt hx hdd;obtain⟨⟨k',⟨⟩⟩,ys,⟨⟩⟩:=r;simp only at e1 e3 e4;subst e1;refine⟨.inr ((dd xs,()),()),?_,.inr rfl⟩;rw[hr]
        have c5:qY (K:Int) ((ys.length:Nat):Int) ys.length=true:=by simp[qY];omega
        have c6:∀l:List Mv,K≤l.length→qY 0 (K:Int) l.length=true:=fun l hl=>by simp[qY];omega
        simp only[he,decide_true,cond_true,Option.bind_some,c5,qg,Int.toNat_natCast];rw[c6 _ (by simp;omega),qg,Option.bind_some,Sum.elim_inr,List.take_append_of_le_length (by simp;omega),List.take_take,Nat.min_self,e4]
      · left;refine⟨((((k+1:Nat):Int),()),(xs,())),?_,⟨k+1,rfl,by omega,by omega,?_⟩,by simp;omega⟩
        · simp only[he,decide_false,cond_false,Option.bind_some,Sum.elim_inl,w2]
        · rw[hdd,if_neg (fun e=>he e.symm),h4,←qn5 hlt]
    · right
      have c1:decide ((k:Int)<((xs.length:Nat):Int))=false:=by simp;omega
      refine⟨.inl ((),(xs,())),by simp only[c1,cond_false],.inl ⟨rfl,?_⟩⟩
      have:k=xs.length:=by omega
      rw[this,List.take_length] at h4
      exact h4) (((1:Int),()),(xs,())) ⟨1,rfl,by omega,by omega,by
        cases xs with
        | nil=>rfl
        | cons x l=>rfl⟩
  rw[hr];rcases hq with ⟨rfl,e⟩ | rfl
  · rw[e];rfl
  · rfl

def qbc (p:Place):List Int:=getD' [p.2.1.1,p.2.1.2.1] (p.2.2.1).toNat []
theorem qe7 {r:Rules} {p:Place} (h:Valid r p):qbc p=if p.turn=0 then p.h0 else p.h1:=by
  unfold qbc;rcases h.turn with e | e
  · rw[if_pos e,show p.2.2.1=0 from e];rfl
  · rw[if_neg (by omega),show p.2.2.1=1 from e];rfl
theorem qgP {r:Rules} {p:Place} (h:Valid r p):(qbc p).length=r.pieces.length:=by
  rw[qe7 h];split
  · exact h.l0
  · exact h.l1
theorem qkP {r:Rules} {p:Place} (h:Valid r p):∀c∈qbc p,0≤c∧c≤1000:=by
  rw[qe7 h];split
  · exact h.hand0
  · exact h.hand1
def handI (p:Place) (k:Int):Int:=(qbc p).getD k.toNat 0
theorem at_hand {p:Place} {k:Int} (h0:0≤k) (h1:k<(((qbc p).length:Nat):Int)):at? (getD' [p.2.1.1,p.2.1.2.1] (p.2.2.1).toNat []) k=some (handI p k):=by
  show at? (qbc p) k=_;rw[at?_eq _ k h0 h1];unfold handI;rw[List.getD_eq_getElem?_getD,List.getElem?_eq_getElem (by omega)];rfl
theorem handI_rng {r:Rules} {p:Place} (h:Valid r p) (k:Int):0≤handI p k∧handI p k≤1000:=by
  unfold handI;rw[List.getD_eq_getElem?_getD]
  cases e:(qbc p)[k.toNat]? with
  | none=>simp
  | some c=>exact qkP h c (List.mem_of_getElem? e)

def colF (p:Place) (W x0:Int):Nat→Bool
  | 0=>true
  | y+1=>colF p W x0 y&&(cellI p (x0+(y:Int)*W)!=0)
theorem qoc (p:Place) (W x0:Int):∀y,colF p W x0 y = !((List.range y).any fun i=>cellI p (x0+(i:Int)*W)==0)
  | 0=>rfl
  | y+1=>by rw[colF,qoc p W x0 y,List.range_succ,List.any_append];simp[bne]
def qfg (r:Rules) (p:Place) (s:Int):Bool:=colF p r.width (s.tmod r.width) (s.tdiv r.width).toNat
theorem div_eq {W s:Int} (hW:1≤W) (h0:0≤s):s=s.tmod W+((s.tdiv W).toNat:Int)*W:=by
  have h1:=Int.tmod_add_tdiv_mul s W
  have h2:0≤s.tdiv W:=by rw[Int.tdiv_eq_ediv_of_nonneg h0];exact Int.ediv_nonneg h0 (by omega)
  rw[Int.toNat_of_nonneg h2];exact h1.symm
theorem qjG {r:Rules} {p:Place} (h:Valid r p) {x0:Int} (hx:0≤x0∧x0<r.width):∀(y:Nat),(y:Int)≤r.height →
    (Option.bind (α:=((Unit)×(Unit)) ⊕ Bool) (iterW (qbn p r) ((x0+(y:Int)*r.width-r.width,()),())) (Sum.elim (fun x3=>some true) some))=some (colF p r.width x0 y)
  | 0,hy=>by
    rw[qk (r := .inl ((),())) (by
      unfold qbn
      have:decide (x0+((0:Nat):Int)*r.width-r.width≥0)=false:=by simp;omega
      simp only[this,cond_false])]
    rfl
  | y+1,hy=>by
    have hr:=h.r0;have:=hr.w8;have:=hr.h8;have:=hr.w1;have:=hr.h1;have ha:=hr.area;have hb:onB r x0 (y:Int)=true:=onB_iff.2 ⟨hx.1,hx.2,by omega,by omega⟩;have hs:=qh6 hr hb;have hm:=qhS (show 0≤r.width by omega) (show(0:Int)≤(y:Int) by omega) (show(y:Int)<r.height by omega);have e:x0+((y+1:Nat):Int)*r.width-r.width=x0+(y:Int)*r.width:=by
      rw[show((y+1:Nat):Int)=(y:Int)+1 by omega,Int.add_mul];omega
    rw[e];have hat:=qbL (p:=p) (s:=x0+(y:Int)*r.width) (by omega) (by rw[h.cells];omega)
    have hge:decide (x0+(y:Int)*r.width≥0)=true:=by simp;omega
    cases hc:(cellI p (x0+(y:Int)*r.width)==0) with
    | true =>
      rw[qk (r := .inr false) (by
        unfold qbn
        simp only[hge,cond_true,hat,Option.bind_some,hc])]
      simp[colF,bne,hc]
    | false =>
      rw[qs (y:=((x0+(y:Int)*r.width-r.width,()),())) (by
        unfold qbn;simp only[hge,cond_true,hat,Option.bind_some,hc,cond_false]
        rw[qd (n:=x0+(y:Int)*r.width-r.2.1) (by show _≤x0+(y:Int)*r.width-r.width;omega) (by show x0+(y:Int)*r.width-r.width≤_;omega)]),qjG h hx y (by omega)]
      simp[colF,bne,hc]
theorem qnT {r:Rules} {p:Place} (h:Valid r p) {s:Int} (h0:0≤s) (h1:s<r.width*r.height):qd9 r p s=some (qfg r p s):=by
  have hr:=h.r0;have:=hr.w8;have:=hr.h8;have:=hr.w1;have:=hr.h1;have ha:=hr.area;have hd:=qen hr h0 h1;have e:=div_eq hr.w1 h0;unfold qd9 qfg;rw[qd (n:=s-r.2.1) (by show _≤s-r.width;omega) (by show s-r.width≤_;omega)];have:=qjG h hd.1 (s.tdiv r.width).toNat (by omega);rw[←e] at this;exact this
def putOk (r:Rules) (p:Place) (s:Int):Bool:=(cellI p s==0)&&(!r.falls||qfg r p s)
def qex (r:Rules) (p:Place) (s:Nat):List Mv:=bif putOk r p (s:Int) then(List.range (qbc p).length).flatMap (fun k:Nat=>bif decide (handI p (k:Int)>0) then [((-1:Int),((s:Int),((k:Int),())))] else []) else []
theorem fm_len1 {A:Type} (n:Nat) (F:Nat→List A) (h:∀k,(F k).length≤1):((List.range n).flatMap F).length≤n:=by
  have:=qaU F 1 (List.range n) (fun k _=>h k);simpa using this
theorem qho {r:Rules} {p:Place} (h:Valid r p) (s:Nat):(qex r p s).length≤6:=by
  unfold qex;cases putOk r p (s:Int)
  · simp
  · rw[cond_true];refine Nat.le_trans (fm_len1 _ _ fun k=>?_) (by rw[qgP h];exact h.r0.t6)
    cases decide (handI p (k:Int)>0)<;>simp
theorem qbG {r:Rules} {p:Place} (h:Valid r p):p.1.length≤64:=by
  have:=h.cells;have:=h.r0.area;have h1:((p.1.length:Nat):Int)=r.width*r.height:=h.cells;omega
theorem puts_spec {r:Rules} {p:Place} (h:Valid r p):qhg r p=some ((List.range p.1.length).flatMap (qex r p)):=by
  have hr:=h.r0;have:=hr.w8;have:=hr.h8;have:=hr.w1;have:=hr.h1;have ha:=hr.area;have hlen:((p.1.length:Nat):Int)=r.width*r.height:=h.cells;have h64:=qbG h
  have hh:(qbc p).length≤6:=by rw[qgP h];exact hr.t6
  unfold qhg;rw[qeb (A:=Mv) p.1.length 6 (qdj p r) (qex r p) (fun a=>((a,()),())) [] (fun i _=>qho h i) (fun i hi a hal=>?_) (fun a=>?_)]
  · simp
  · unfold qdj
    have c1:decide ((i:Int)<((p.1.length:Nat):Int))=true:=by simp;omega
    have hat:=qbL (p:=p) (s:=(i:Int)) (by omega) (by show(i:Int)<((p.1.length:Nat):Int);omega);simp only[c1,cond_true,hat,Option.bind_some];have hf:=qnT h (s:=(i:Int)) (by omega) (by omega);have hfil:(i:Int)<r.width→qfg r p (i:Int)=true:=fun hlt=>by
      unfold qfg;rw[Int.tdiv_eq_ediv_of_nonneg (by omega),Int.ediv_eq_zero_of_lt (by omega) hlt];rfl
    rw[hf]
    have hg:∀b c:Bool,gopt b false (some c)=some (b&&c):=fun b c=>by cases b<;>rfl
    rw[hg,Option.bind_some];have hcond:((cellI p (i:Int)!=(0:Int))||((r.2.2.2.2.2.1&&(decide ((i:Int)≥r.2.1)))&&(!(((r.2.2.2.2.2.1&&(decide ((i:Int)≥r.2.1)))&&(!(cellI p (i:Int)!=(0:Int))))&&qfg r p (i:Int))))) = !putOk r p (i:Int):=by
      unfold putOk;rw[show r.2.2.2.2.2.1=r.falls from rfl];by_cases hlt:(i:Int)<r.width
      · rw[hfil hlt,show decide ((i:Int)≥r.2.1)=false by simp;exact hlt];simp only[bne]
        cases (cellI p (i:Int)==0)<;>cases r.falls<;>rfl
      · rw[show decide ((i:Int)≥r.2.1)=true by simp;show r.width≤(i:Int);omega];simp only[bne]
        cases (cellI p (i:Int)==0)<;>cases r.falls<;>cases qfg r p (i:Int)<;>rfl
    rw[hcond,qd (n:=(i:Int)+1) (by omega) (by omega)];unfold qex
    cases hp:putOk r p (i:Int) with
    | false=>simp
    | true =>
      have hin:inb p.2.2.1 2=true:=inb_iff.2 (by have:=h.turn;show 0≤p.turn∧p.turn<((2:Nat):Int);omega);simp only[Bool.not_true,cond_false,cond_true,hin,qg]
      rw[qeb (A:=Mv) (qbc p).length 1 (qds p ((a,(i:Int),()),())) (fun k=>bif decide (handI p (k:Int)>0) then [((-1:Int),((i:Int),((k:Int),())))] else []) (fun a=>((a,()),())) a (fun k _=>by cases decide (handI p (k:Int)>0)<;>simp) (fun k hk a2 ha2=>?_) (fun a2=>?_)]
      · rfl
      · unfold qds;have c2:decide ((k:Int)<(((getD' [p.2.1.1,p.2.1.2.1] (p.2.2.1).toNat []).length:Nat):Int))=true:=by
          have:k<(getD' [p.2.1.1,p.2.1.2.1] (p.2.2.1).toNat []).length:=hk;simp;exact this
        have hat2:=at_hand (p:=p) (k:=(k:Int)) (by omega) (by omega);simp only[c2,cond_true,hat2,Option.bind_some];rw[qd (n:=(k:Int)+1) (by omega) (by omega)];cases decide (handI p (k:Int)>0)
        · simp
        · have hroom:room (a2.length+[((-1:Int),((i:Int),((k:Int),())))].length) 24=true:=qb2 (by
            simp only[List.length_singleton,List.length_nil] at *;have:i*6≤64*6:=Nat.mul_le_mul_right _ (by omega)
            omega)
          simp only[cond_true,hroom,qg,Option.bind_some]
      · unfold qds;have c2:decide ((((qbc p).length:Nat):Int)<(((getD' [p.2.1.1,p.2.1.2.1] (p.2.2.1).toNat []).length:Nat):Int))=false:=by
          show decide ((((qbc p).length:Nat):Int)<(((qbc p).length:Nat):Int))=false;simp
        simp only[c2,cond_false]
  · unfold qdj;simp

def lastB (r:Rules) (pl t:Int):Bool:=bif pl==0 then t.tdiv r.width==r.height-1 else t.tdiv r.width==0
theorem qiU {r:Rules} (hr:VR0 r) (pl:Int) {t:Int} (h0:0≤t) (h1:t<r.width*r.height):qcS r pl t=some (lastB r pl t):=by
  have:=hr.w8;have:=hr.h8;have:=hr.w1;have:=hr.h1;have hd:=qen hr h0 h1;have hq:(r.2.1 !=0)=true:=bne_t (by show ¬r.width=0;omega);have w1:w64 (t.tdiv r.2.1)=t.tdiv r.width:=qd (by show _≤t.tdiv r.width;omega) (by show t.tdiv r.width≤_;omega);have w2:w64 (r.2.2.1-1)=r.height-1:=qd (by show _≤r.height-1;omega) (by show r.height-1≤_;omega);unfold qcS lastB;rw[hq,qg,qg,w1,w2];exact qam _ _ _
def qaP (r:Rules) (k:Int):Piece:=r.pieces.getD k.toNat (0,0,0,[],())
theorem qio {r:Rules} {k:Int} (h0:0≤k) (h1:k<((r.pieces.length:Nat):Int)):at? r.2.2.2.1 k=some (qaP r k)∧qaP r k∈r.pieces:=by
  have h1':k<((r.2.2.2.1.length:Nat):Int):=h1;rw[at?_eq r.2.2.2.1 k h0 h1];unfold qaP;rw[List.getD_eq_getElem?_getD,List.getElem?_eq_getElem (by show k.toNat<r.2.2.2.1.length;omega)];exact⟨rfl,List.getElem_mem _⟩
def qZ (c:Int):Int:=(c-1).tdiv 2
theorem qdd {r:Rules} {p:Place} (h:Valid r p) {s:Int} (hm:cellI p s>0):w64 ((w64 (cellI p s-1)).tdiv 2)=qZ (cellI p s)∧0≤qZ (cellI p s)∧qZ (cellI p s)<((r.pieces.length:Nat):Int):=by
  have hc:=qox h s;have ht:=h.r0.t6;rw[qd (n:=cellI p s-1) (by omega) (by omega)];unfold qZ;rw[Int.tdiv_eq_ediv_of_nonneg (by omega)];refine⟨qd (by omega) (by omega),by omega,by omega⟩
def becomes (r:Rules) (p:Place) (k t:Int):Int:=bif decide ((qaP r k).2.2.1>0)&&lastB r p.turn t then(qaP r k).2.2.1-1 else k
def goAt (r:Rules) (p:Place) (s:Nat):List Mv:=bif mineB p (cellI p (s:Int)) then(qaP r (qZ (cellI p (s:Int)))).2.2.2.1.flatMap (fun w=>(wayS r p (s:Int) w).map fun t=>((s:Int),(t,(becomes r p (qZ (cellI p (s:Int))) t,())))) else []
theorem qhc {A C:Type} (l:List C) (F:C→List A) (d:C):(List.range l.length).flatMap (fun i=>F (l.getD i d))=l.flatMap F:=by
  induction l with
  | nil=>rfl
  | cons x l ih =>
    rw[List.length_cons,List.range_succ_eq_map,List.flatMap_cons,List.flatMap_cons,List.flatMap_map]
    have e:(fun a=>F ((x::l).getD a.succ d))=fun i=>F (l.getD i d):=by funext i;simp
    rw[e,ih];rfl
theorem map_range {A C:Type} (l:List C) (F:C→A) (d:C):(List.range l.length).flatMap (fun i=>[F (l.getD i d)])=l.map F:=by
  rw[qhc l (fun x=>[F x]) d]
  induction l with
  | nil=>rfl
  | cons x l ih=>rw[List.flatMap_cons,List.map_cons,ih];rfl
theorem qm4 {r:Rules} {p:Place} {s:Int} {w:RWay} (hw:WayOk w):(wayS r p s w).length≤7:=by
  obtain⟨_,_,_,h4,_⟩:=hw;exact Nat.le_trans (qn0 _ _ _ _ _ _) (by omega)
theorem qoC {r:Rules} {p:Place} (h:Valid r p) (s:Nat):(goAt r p s).length≤112:=by
  unfold goAt
  cases hm:mineB p (cellI p (s:Int)) with
  | false=>simp
  | true =>
    have hc:cellI p (s:Int)>0:=by unfold mineB at hm;simp at hm;exact hm.1
    have hk:=qdd h hc;have hmem:=(qio (r:=r) hk.2.1 hk.2.2).2;rw[cond_true];refine Nat.le_trans (qaU _ 7 _ fun w hw=>?_) ?_
    · rw[List.length_map];exact qm4 (h.wayOk hmem hw)
    · have:=h.r0.ways _ hmem;omega
def qb4 (r:Rules) (p:Place):List Mv:=(List.range p.1.length).flatMap (qex r p)++(List.range p.1.length).flatMap (goAt r p)
theorem list_raw {r:Rules} {p:Place} (h:Valid r p):iterW (qcr p r) (((List.range p.1.length).flatMap (qex r p),(0:Int),()),())=some ((qb4 r p,()),()):=by
  have hr:=h.r0;have:=hr.w8;have:=hr.h8;have:=hr.w1;have:=hr.h1;have ha:=hr.area;have hlen:((p.1.length:Nat):Int)=r.width*r.height:=h.cells;have h64:=qbG h;have hpl:((List.range p.1.length).flatMap (qex r p)).length≤64*6:=by
    refine Nat.le_trans (qaU _ 6 _ fun i _=>qho h i) ?_;rw[List.length_range];exact Nat.mul_le_mul_right _ h64
  unfold qb4;generalize (List.range p.1.length).flatMap (qex r p)=pl at hpl;refine qeb (A:=Mv) p.1.length 112 (qcr p r) (goAt r p) (fun a=>((a,()),())) pl (fun i _=>qoC h i) (fun i hi a hal=>?_) (fun a=>?_)
  · have hal2:a.length≤64*6+64*112:=by
      have:i*112≤64*112:=Nat.mul_le_mul_right _ (by omega);omega
    unfold qcr
    have c1:decide ((i:Int)<((p.1.length:Nat):Int))=true:=by simp;omega
    have hat:=qbL (p:=p) (s:=(i:Int)) (by omega) (by show(i:Int)<((p.1.length:Nat):Int);omega);have hc:=qcJ h (i:Int)
    have hi2:(i:Int)<r.width*r.height:=by omega
    simp only[c1,cond_true,hat,Option.bind_some,show ∀b,imp b true=true from fun b=>by cases b<;>rfl,qg]
    have hcond:((cellI p (i:Int)==(0:Int))||(((w64 (cellI p (i:Int)-(1:Int))).tmod (2:Int))!=p.2.2.1)) = !mineB p (cellI p (i:Int)):=by
      rw[qd (n:=cellI p (i:Int)-1) (by omega) (by omega)];unfold mineB;rw[show p.turn=p.2.2.1 from rfl];by_cases hz:cellI p (i:Int)=0
      · simp[hz]
      · rw[beq_f hz,show decide (cellI p (i:Int)>0)=true by simp;omega];simp[bne]
    rw[hcond,qd (n:=(i:Int)+1) (by omega) (by omega)];unfold goAt
    cases hm:mineB p (cellI p (i:Int)) with
    | false=>simp
    | true =>
      have hcp:cellI p (i:Int)>0:=by unfold mineB at hm;simp at hm;exact hm.1
      have hk:=qdd h hcp;obtain⟨hpa,hmem⟩:=qio (r:=r) hk.2.1 hk.2.2;simp only[Bool.not_true,cond_false,hk.1,hpa,Option.bind_some,cond_true];generalize hK:qZ (cellI p (i:Int))=K at *;have hways:=h.r0.ways _ hmem;have hWl:(qaP r K).2.2.2.1.length≤16:=hways;rw[qeb (A:=Mv) (qaP r K).2.2.2.1.length 7 (qdc (qaP r K) r p ((a,(i:Int),()),()) (cellI p (i:Int))) (fun j=>(wayS r p (i:Int) ((qaP r K).2.2.2.1.getD j (0,0,0,0,()))).map fun t=>((i:Int),(t,(becomes r p K t,())))) (fun a=>((a,()),())) a (fun j hj=>?_) (fun j hj a2 ha2=>?_) (fun a2=>?_)]
      · rw[qhc (qaP r K).2.2.2.1 (fun w=>(wayS r p (i:Int) w).map fun t=>((i:Int),(t,(becomes r p K t,())))) (0,0,0,0,())];rfl
      · rw[List.length_map,List.getD_eq_getElem?_getD,List.getElem?_eq_getElem hj];exact qm4 (h.wayOk hmem (List.getElem_mem hj))
      · have ha22:a2.length≤64*6+64*112+112:=by
          have:j*7≤16*7:=Nat.mul_le_mul_right _ (by omega);omega
        unfold qdc
        have c2:decide ((j:Int)<(((qaP r K).2.2.2.1.length:Nat):Int))=true:=by simp;omega
        have hatw:at? (qaP r K).2.2.2.1 (j:Int)=some ((qaP r K).2.2.2.1.getD j (0,0,0,0,())):=by
          rw[at?_eq _ _ (by omega) (by omega),List.getD_eq_getElem?_getD,List.getElem?_eq_getElem hj];rfl
        have hwm:(qaP r K).2.2.2.1.getD j (0,0,0,0,())∈(qaP r K).2.2.2.1:=by
          rw[List.getD_eq_getElem?_getD,List.getElem?_eq_getElem hj];exact List.getElem_mem hj
        have hwo:=h.wayOk hmem hwm;simp only[c2,cond_true,hatw,Option.bind_some];generalize (qaP r K).2.2.2.1.getD j (0,0,0,0,())=w at *;rw[way_spec h hwo (by omega) hi2,Option.bind_some];have hwl:=qm4 (r:=r) (p:=p) (s:=(i:Int)) hwo;have hwr:∀t∈wayS r p (i:Int) w,0≤t∧t<r.width*r.height:=fun t ht=>qiA hr ht;generalize wayS r p (i:Int) w=T at *;rw[qeb (A:=Mv) T.length 1 (qdg T r (cellI p (i:Int)) p ((a,(i:Int),()),())) (fun t=>[((i:Int),(T.getD t 0,(becomes r p K (T.getD t 0),())))]) (fun a=>((a,()),())) a2 (fun _ _=>by simp) (fun t ht a3 ha3=>?_) (fun a3=>?_)]
        · rw[map_range T (fun t=>((i:Int),(t,(becomes r p K t,())))) 0];simp only[Option.bind_some];rw[qd (n:=(j:Int)+1) (by omega) (by omega)]
        · unfold qdg
          have c3:decide ((t:Int)<((T.length:Nat):Int))=true:=by simp;omega
          have c4:inb (t:Int) T.length=true:=inb_iff.2 ⟨by omega,by omega⟩;have hg:getD' T t (0:Int)=T.getD t 0:=rfl;have htr:=hwr (T.getD t 0) (by rw[List.getD_eq_getElem?_getD,List.getElem?_eq_getElem ht];exact List.getElem_mem ht);simp only[c3,cond_true,c4,qg,hk.1,hpa,Option.bind_some,Int.toNat_natCast,hg];generalize T.getD t 0=tt at *;rw[qiU hr p.2.2.1 htr.1 htr.2];have hpr:=h.r0.prom _ hmem;have ht6:=h.r0.t6
          have hgo:∀b c:Bool,gopt b false (some c)=some (b&&c):=fun b c=>by cases b<;>rfl
          rw[hgo,Option.bind_some,qd (n:=(qaP r K).2.2.1-1) (by omega) (by omega),qd (n:=(t:Int)+1) (by omega) (by omega)];unfold becomes;rw[show p.turn=p.2.2.1 from rfl];have hroom:room (a3.length+1) 24=true:=qb2 (by omega)
          cases decide ((qaP r K).2.2.1>0)<;>cases lastB r p.2.2.1 tt<;>simp[hroom,qg]
        · unfold qdg;simp
      · unfold qdc;simp
  · unfold qcr;simp
theorem raw_len {r:Rules} {p:Place} (h:Valid r p):(qb4 r p).length≤10000:=by
  have h64:=qbG h;unfold qb4;rw[List.length_append];have h1:((List.range p.1.length).flatMap (qex r p)).length≤64*6:=by
    refine Nat.le_trans (qaU _ 6 _ fun i _=>qho h i) ?_;rw[List.length_range];exact Nat.mul_le_mul_right _ h64
  have h2:((List.range p.1.length).flatMap (goAt r p)).length≤64*112:=by
    refine Nat.le_trans (qaU _ 112 _ fun i _=>qoC h i) ?_;rw[List.length_range];exact Nat.mul_le_mul_right _ h64
  omega
theorem list_dd {r:Rules} {p:Place} (h:Valid r p):qbo r p=some (dd (qba (qb4 r p))):=by
  unfold qbo;rw[puts_spec h,Option.bind_some,list_raw h,Option.bind_some];have hl:=raw_len h;have hb:Nat.blt (qb4 r p).length 4611686018427387904=true:=by
    rw[Nat.blt_eq];omega
  simp only[hb,qg];have hs:=sort_len (qb4 r p);generalize qba (qb4 r p)=xs at hs;by_cases h2:xs.length<2
  · have c:decide (((xs.length:Nat):Int)<2)=true:=by simp;omega
    rw[c,cond_true];have:dd xs=xs:=by
      match xs,h2 with
      | [],_=>rfl
      | [x],_=>rfl
    rw[this];rfl
  · have c:decide (((xs.length:Nat):Int)<2)=false:=by simp;omega
    rw[c,cond_false,compact4 xs (by omega) (by omega)];rfl

theorem iter_appO {A R:Type} (n B:Nat) (c:Int) (f:(((List A)×Int×Unit)×Unit)→Option ((((List A)×Int×Unit)×Unit) ⊕ R)) (F:Nat→List A) (fin:List A→R) (a0:List A) (hF:∀i,i<n→(F i).length≤B)
    (hs:∀i,i<n→∀a:List A,a.length≤a0.length+i*B→f ((a,c+(i:Int),()),())=some (.inl ((a++F i,c+(i:Int)+1,()),()))) (he:∀a,f ((a,c+(n:Int),()),())=some (.inr (fin a))) :
    iterW f ((a0,c,()),())=some (fin (a0++(List.range n).flatMap F)):=by
  have hl:∀i,i≤n→(a0++(List.range i).flatMap F).length≤a0.length+i*B:=fun i hi=>by
    have:=qaU F B (List.range i) (fun x hx=>hF x (by rw[List.mem_range] at hx;omega));rw[List.length_range] at this;rw[List.length_append];omega
  have:=qaO (f:=f) n (fun i=>((a0++(List.range i).flatMap F,c+(i:Int),()),())) (fin (a0++(List.range n).flatMap F)) (fun i hi=>by
    rw[hs i hi _ (hl i (by omega)),List.range_succ,List.flatMap_append,←List.append_assoc]
    simp[Int.add_assoc]) (he _)
  simpa using this

def mvOk (r:Rules) (p:Place) (m:Mv):Bool:=decide ((-1≤m.1∧m.1<((p.1.length:Nat):Int))∧(0≤m.2.1∧m.2.1<((p.1.length:Nat):Int))∧(0≤m.2.2.1∧m.2.2.1<((r.pieces.length:Nat):Int)))
def goOk (r:Rules) (p:Place) (m:Mv):Bool:=mineB p (cellI p m.1)&&((becomes r p (qZ (cellI p m.1)) m.2.1==m.2.2.1)&&(qaP r (qZ (cellI p m.1))).2.2.2.1.any (fun w=>decide (m.2.1∈wayS r p m.1 w)))
def qD (r:Rules) (p:Place) (m:Mv):Bool:=mvOk r p m&&(bif m.1 == -1 then decide (handI p m.2.2.1>0)&&putOk r p m.2.1 else goOk r p m)
def qf6 (p:Place) (W x0:Int):Nat→Nat→Bool
  | _,0=>true
  | i,n+1=>(cellI p (x0+(i:Int)*W)!=0)&&qf6 p W x0 (i+1) n
theorem qiE (p:Place) (W x0:Int):∀n i,qf6 p W x0 i n = !((List.range n).any fun j=>cellI p (x0+((i+j:Nat):Int)*W)==0)
  | 0,i=>rfl
  | n+1,i=>by
    rw[qf6,qiE p W x0 n (i+1),List.range_succ_eq_map,List.any_cons,List.any_map,Bool.not_or];have e:((fun j=>cellI p (x0+((i+j:Nat):Int)*W)==0)∘Nat.succ)=fun j=>cellI p (x0+((i+1+j:Nat):Int)*W)==0:=by
      funext j;simp only[Function.comp];rw[show i+j.succ=i+1+j by omega]
    rw[e];rfl
theorem qlL (p:Place) (W x0:Int) (y:Nat):qf6 p W x0 0 y=colF p W x0 y:=by
  rw[qiE,qoc];simp
theorem up_iter {r:Rules} {p:Place} (h:Valid r p) {m:Mv} (hf:r.falls=true) (h0:0≤m.2.1) (h1:m.2.1<r.width*r.height):∀(n i:Nat),(i:Int)+n=m.2.1.tdiv r.width →
    (Option.bind (α:=((Unit)×(Unit)) ⊕ Bool) (iterW (qaZ r m p) ((m.2.1.tmod r.width+(i:Int)*r.width,()),())) (Sum.elim (fun x11=>some true) some))=some (qf6 p r.width (m.2.1.tmod r.width) i n)
  | 0,i,hi=>by
    have e:=Int.tmod_add_tdiv_mul m.2.1 r.width
    rw[qk (r := .inl ((),())) (by
      unfold qaZ;have:decide (m.2.1.tmod r.width+(i:Int)*r.width<m.2.1)=false:=by
        rw[decide_eq_false_iff_not,show(i:Int)=m.2.1.tdiv r.width by omega];omega
      simp only[this,Bool.and_false,cond_false])]
    rfl
  | n+1,i,hi=>by
    have hr:=h.r0;have:=hr.w8;have:=hr.h8;have:=hr.w1;have:=hr.h1;have ha:=hr.area;have hd:=qen hr h0 h1;have e:=Int.tmod_add_tdiv_mul m.2.1 r.width;have hb:onB r (m.2.1.tmod r.width) (i:Int)=true:=onB_iff.2 ⟨hd.1.1,hd.1.2,by omega,by omega⟩;have hs:=qh6 hr hb;unfold sq at hs;have hle:((i:Int)+1)*r.width≤m.2.1.tdiv r.width*r.width:=Int.mul_le_mul_of_nonneg_right (by omega) (by omega);rw[Int.add_mul,Int.one_mul] at hle;have hlt:(r.2.2.2.2.2.1&&decide (m.2.1.tmod r.width+(i:Int)*r.width<m.2.1))=true:=by
      rw[show r.2.2.2.2.2.1=true from hf,Bool.true_and,decide_eq_true_eq];omega
    have hat:=qbL (p:=p) (s:=m.2.1.tmod r.width+(i:Int)*r.width) (by omega) (by rw[h.cells];omega)
    cases hc:(cellI p (m.2.1.tmod r.width+(i:Int)*r.width)==0) with
    | true =>
      rw[qk (r := .inr false) (by
        unfold qaZ
        simp only[hlt,cond_true,hat,Option.bind_some,hc])]
      simp[qf6,bne,hc]
    | false =>
      have w1:w64 (m.2.1.tmod r.width+(i:Int)*r.width+r.2.1)=m.2.1.tmod r.width+((i+1:Nat):Int)*r.width:=by
        rw[show((i+1:Nat):Int)=(i:Int)+1 by omega,Int.add_mul,Int.one_mul];rw[qd (by show _≤m.2.1.tmod r.width+(i:Int)*r.width+r.width;omega) (by show m.2.1.tmod r.width+(i:Int)*r.width+r.width≤_;omega)];show m.2.1.tmod r.width+(i:Int)*r.width+r.width=_;omega
      rw[qs (y:=((m.2.1.tmod r.width+((i+1:Nat):Int)*r.width,()),())) (by
        unfold qaZ
        simp only[hlt,cond_true,hat,Option.bind_some,hc,cond_false,w1])]
      rw[up_iter h hf h0 h1 n (i+1) (by omega)];simp[qf6,bne,hc]
theorem far_eq {r:Rules} {p:Place} (h:Valid r p) {t:Int} (h0:0≤t) (h1:t<r.width*r.height):qd8 r p.2.2.1 (w64 (t.tdiv r.2.1))=lastB r p.turn t:=by
  have hr:=h.r0;have:=hr.w8;have:=hr.h8;have:=hr.w1;have:=hr.h1;have hd:=qen hr h0 h1;have w1:w64 (t.tdiv r.2.1)=t.tdiv r.width:=qd (by show _≤t.tdiv r.width;omega) (by show t.tdiv r.width≤_;omega);have w2:w64 (r.2.2.1-1)=r.height-1:=qd (by show _≤r.height-1;omega) (by show r.height-1≤_;omega);unfold qd8 lastB;rw[w1,w2,show p.2.2.1=p.turn from rfl]
  rcases h.turn with e | e<;>rw[e]<;>simp
theorem qlR {r:Rules} {p:Place} (h:Valid r p) (m:Mv):qep r p m=some (qD r p m):=by
  have hr:=h.r0;have:=hr.w8;have:=hr.h8;have:=hr.w1;have:=hr.h1;have ha:=hr.area;have hlen:((p.1.length:Nat):Int)=r.width*r.height:=h.cells;have ht6:r.2.2.2.1.length≤6:=hr.t6;unfold qep qD;rw[qd (n:=((p.1.length:Nat):Int)-1) (by omega) (by omega),qd (n:=((r.2.2.2.1.length:Nat):Int)-1) (by omega) (by omega)];have hcond:(((!(qu m.1 (-1:Int) (((p.1.length:Nat):Int)-(1:Int))))||(!(qu m.2.1 (0:Int) (((p.1.length:Nat):Int)-(1:Int)))))||(!(qu m.2.2.1 (0:Int) (((r.2.2.2.1.length:Nat):Int)-(1:Int))))) = !mvOk r p m:=by
    unfold qu mvOk;rw[Bool.eq_iff_iff];simp only[Bool.or_eq_true,Bool.not_eq_true',Bool.and_eq_false_iff,decide_eq_false_iff_not];show _↔¬((-1≤m.1∧m.1<((p.1.length:Nat):Int))∧(0≤m.2.1∧m.2.1<((p.1.length:Nat):Int))∧(0≤m.2.2.1∧m.2.2.1<((r.2.2.2.1.length:Nat):Int)));omega
  rw[hcond]
  cases hok:mvOk r p m with
  | false=>rfl
  | true =>
    unfold mvOk at hok;rw[decide_eq_true_eq] at hok;obtain⟨⟨a1,a2⟩,⟨b1,b2⟩,c1,c2⟩:=hok;rw[Bool.not_true,cond_false,Bool.true_and]
    have hb2:m.2.1<r.width*r.height:=by omega
    have hq:(r.2.1 !=0)=true:=bne_t (by show ¬r.width=0;omega);by_cases hm:m.1 = -1
    · rw[beq_t hm,cond_true,cond_true];have hin:inb p.2.2.1 2=true:=inb_iff.2 (by have:=h.turn;show 0≤p.turn∧p.turn<((2:Nat):Int);omega);have hh:=at_hand (p:=p) (k:=m.2.2.1) c1 (by rw[qgP h];exact c2);have hhr:=handI_rng h m.2.2.1;have hat:=qbL (p:=p) (s:=m.2.1) b1 b2;have hga:∀b:Bool,gat b (0:Int) p.1 m.2.1=some (bif b then cellI p m.2.1 else 0):=fun b=>by
        cases b
        · rfl
        · exact hat
      rw[hin,qg,hh,Option.bind_some,hga,Option.bind_some];by_cases hz:handI p m.2.2.1=0
      · simp[hz]
      · have hpos:decide (handI p m.2.2.1>0)=true:=by simp;omega
        rw[beq_f hz,hpos,Bool.not_false,cond_true,Bool.false_or,Bool.true_and];unfold putOk
        cases hc:(cellI p m.2.1==0) with
        | false=>simp[bne,hc]
        | true =>
          have hne:(cellI p m.2.1 !=0)=false:=by simp only[bne,hc];rfl
          rw[hne,cond_false,hq,qg,Bool.true_and]
          cases hf:r.falls with
          | false =>
            rw[qk (r := .inl ((),())) (by
              unfold qaZ;rw[show r.2.2.2.2.2.1=false from hf]
              rfl)]
            rfl
          | true =>
            have hd:=qen hr b1 hb2;have:=up_iter h hf b1 hb2 (m.2.1.tdiv r.width).toNat 0 (by omega);rw[qlL] at this;unfold qfg;simpa using this
    · rw[beq_f hm,cond_false,cond_false]
      have ha1:0≤m.1:=by omega
      have ha2:m.1<r.width*r.height:=by omega
      have hat:=qbL (p:=p) (s:=m.1) ha1 a2;have hc:=qcJ h m.1;rw[hat,Option.bind_some,qeO _ _ hc.1 hc.2,Option.bind_some];unfold goOk;rw[show(decide (cellI p m.1>0)&&(cellI p m.1-1).tmod 2==p.2.2.1)=mineB p (cellI p m.1) from rfl]
      cases hmine:mineB p (cellI p m.1) with
      | false=>rfl
      | true =>
        have hcp:cellI p m.1>0:=by unfold mineB at hmine;simp at hmine;exact hmine.1
        have hk:=qdd h hcp;obtain⟨hpa,hmem⟩:=qio (r:=r) hk.2.1 hk.2.2;rw[Bool.not_true,cond_false,hk.1,hpa,Option.bind_some,hq,far_eq h b1 hb2,Bool.true_and];have hpr:=h.r0.prom _ hmem
        have himp:∀b,imp b true=true:=fun b=>by cases b<;>rfl
        have hbec:(bif (((qaP r (qZ (cellI p m.1))).2.2.1 !=(0:Int))&&lastB r p.turn m.2.1) then some (((w64 ((qaP r (qZ (cellI p m.1))).2.2.1-(1:Int))),()),()) else some ((qZ (cellI p m.1),()),()))=some ((becomes r p (qZ (cellI p m.1)) m.2.1,()),()):=by
          have ht6':=hr.t6;unfold becomes;rw[qd (by omega) (by omega)];by_cases hz:(qaP r (qZ (cellI p m.1))).2.2.1=0
          · simp[hz]
          · rw[bne_t hz,show decide ((qaP r (qZ (cellI p m.1))).2.2.1>0)=true by simp;omega]
            cases lastB r p.turn m.2.1<;>rfl
        rw[himp,qg,hbec,Option.bind_some];simp only[bne]
        cases hb:(becomes r p (qZ (cellI p m.1)) m.2.1==m.2.2.1) with
        | false=>rfl
        | true =>
          rw[Bool.not_true,cond_false,Option.bind_some,Bool.true_and];generalize hP:qaP r (qZ (cellI p m.1))=P at *;have hw16:=hr.ways P hmem
          have hL:=qan P.2.2.2.1 (fun w=>decide (m.2.1∈wayS r p m.1 w)) (qb5 P r p m) (.inr true) (.inl ((),())) (fun i hi=>by
            unfold qb5;simp only[show decide ((i:Int)<((P.2.2.2.1.length:Nat):Int))=true by simp;omega,cond_true];rw[at?_eq _ _ (by omega) (by omega),Option.bind_some];simp only[Int.toNat_natCast];rw[qps h (h.wayOk hmem (List.getElem_mem hi)) ha1 ha2,Option.bind_some,qd (n:=(i:Int)+1) (by omega) (by omega)]
            cases decide (m.2.1∈wayS r p m.1 P.2.2.2.1[i])<;>rfl) (by
            unfold qb5
            simp)
          rw[hL]
          cases P.2.2.2.1.any (fun w=>decide (m.2.1∈wayS r p m.1 w))<;>rfl
def at3 (r:Rules) (p:Place) (i j k:Nat):List Mv:=bif qD r p ((i:Int)-1,((j:Int),((k:Int),()))) then [((i:Int)-1,((j:Int),((k:Int),())))] else []
def at2 (r:Rules) (p:Place) (i j:Nat):List Mv:=(List.range r.2.2.2.1.length).flatMap (at3 r p i j)
def at1 (r:Rules) (p:Place) (i:Nat):List Mv:=(List.range p.1.length).flatMap (at2 r p i)
def qe (r:Rules) (p:Place):List Mv:=(List.range (p.1.length+1)).flatMap (at1 r p)
theorem at3_len (r:Rules) (p:Place) (i j k:Nat):(at3 r p i j k).length≤1:=by unfold at3;cases qD r p ((i:Int)-1,((j:Int),((k:Int),())))<;>simp
theorem at2_len {r:Rules} {p:Place} (h:Valid r p) (i j:Nat):(at2 r p i j).length≤6:=Nat.le_trans (fm_len1 _ _ (at3_len r p i j)) h.r0.t6
theorem at1_len {r:Rules} {p:Place} (h:Valid r p) (i:Nat):(at1 r p i).length≤384:=by
  refine Nat.le_trans (qaU _ 6 _ fun j _=>at2_len h i j) ?_;have:=qbG h;rw[List.length_range];omega
theorem qes {r:Rules} {p:Place} (h:Valid r p):qcP r p=some (qe r p):=by
  have h64:=qbG h;have ht6:r.2.2.2.1.length≤6:=h.r0.t6;unfold qcP;rw[iter_appO (A:=Mv) (p.1.length+1) 384 (-1) (qdz p r) (at1 r p) (fun a=>((a,()),())) [] (fun i _=>at1_len h i) (fun i hi a hal=>?_) (fun a=>?_)]
  · rfl
  · have hal2:a.length≤65*384:=by
      have:i*384≤65*384:=Nat.mul_le_mul_right _ (by omega);simp only[List.length_nil] at hal;omega
    unfold qdz;simp only[show decide ((-1:Int)+(i:Int)<((p.1.length:Nat):Int))=true by simp;omega,cond_true];rw[qeb (A:=Mv) p.1.length 6 (qdo p r ((a,(-1:Int)+(i:Int),()),())) (at2 r p i) (fun a=>((a,()),())) a (fun j _=>at2_len h i j) (fun j hj a2 ha2=>?_) (fun a2=>?_)]
    · simp only[Option.bind_some];rw[qd (n:=(-1:Int)+(i:Int)+1) (by omega) (by omega)];rfl
    · have ha22:a2.length≤65*384+384:=by
        have:j*6≤64*6:=Nat.mul_le_mul_right _ (by omega);omega
      unfold qdo;simp only[show decide ((j:Int)<((p.1.length:Nat):Int))=true by simp;omega,cond_true];rw[qeb (A:=Mv) r.2.2.2.1.length 1 (qdq r p ((a,(-1:Int)+(i:Int),()),()) ((a2,(j:Int),()),())) (at3 r p i j) (fun a=>((a,()),())) a2 (fun k _=>at3_len r p i j k) (fun k hk a3 ha3=>?_) (fun a3=>?_)]
      · simp only[Option.bind_some];rw[qd (n:=(j:Int)+1) (by omega) (by omega)];rfl
      · unfold qdq;simp only[show decide ((k:Int)<((r.2.2.2.1.length:Nat):Int))=true by simp;omega,cond_true];rw[qlR h,Option.bind_some,qd (n:=(k:Int)+1) (by omega) (by omega)];unfold at3;rw[show(-1:Int)+(i:Int)=(i:Int)-1 by omega];have hroom:room (a3.length+1) 24=true:=qb2 (by omega)
        cases qD r p ((i:Int)-1,((j:Int),((k:Int),())))<;>simp[hroom,qg]
      · unfold qdq;simp
    · unfold qdo;simp
  · unfold qdz
    have:decide ((-1:Int)+((p.1.length+1:Nat):Int)<((p.1.length:Nat):Int))=false:=by simp;omega
    simp only[this,cond_false]
theorem qk3 (n:Nat) (F:Nat→List Mv) (h1:∀i,i<n→(F i).Pairwise (fun x y=>mvLt x y=true)) (h2:∀i j,i<j→∀x∈F i,∀y∈F j,mvLt x y=true):((List.range n).flatMap F).Pairwise (fun x y=>mvLt x y=true):=by
  rw[List.pairwise_flatMap];exact⟨fun i hi=>h1 i (List.mem_range.1 hi),List.pairwise_lt_range.imp fun hij=>h2 _ _ hij⟩
theorem qm3 {r:Rules} {p:Place} {i j k:Nat} {x:Mv} (h:x∈at3 r p i j k):x=((i:Int)-1,((j:Int),((k:Int),())))∧qD r p x=true:=by
  unfold at3 at h
  cases hb:qD r p ((i:Int)-1,((j:Int),((k:Int),()))) with
  | false=>simp[hb] at h
  | true =>
    rw[hb,cond_true,List.mem_singleton] at h;rw[h];exact⟨rfl,hb⟩
theorem qni {r:Rules} {p:Place} {i j:Nat} {x:Mv} (h:x∈at2 r p i j):x.1=(i:Int)-1∧x.2.1=(j:Int)∧qD r p x=true:=by
  obtain⟨k,_,hk⟩:=List.mem_flatMap.1 h;obtain⟨e,h2⟩:=qm3 hk;refine⟨by rw[e],by rw[e],h2⟩
theorem qnQ {r:Rules} {p:Place} {i:Nat} {x:Mv} (h:x∈at1 r p i):x.1=(i:Int)-1∧qD r p x=true:=by
  obtain⟨j,_,hj⟩:=List.mem_flatMap.1 h;obtain⟨h1,_,h3⟩:=qni hj;exact⟨h1,h3⟩
theorem qi2 {r:Rules} {p:Place} (x:Mv):x∈qe r p↔qD r p x=true:=by
  constructor
  · intro h;obtain⟨i,_,hi⟩:=List.mem_flatMap.1 h;exact(qnQ hi).2
  · intro h
    have hok:mvOk r p x=true:=by unfold qD at h;simp only[Bool.and_eq_true] at h;exact h.1
    unfold mvOk at hok;rw[decide_eq_true_eq] at hok;obtain⟨⟨a1,a2⟩,⟨b1,b2⟩,c1,c2⟩:=hok;have c2':x.2.2.1<((r.2.2.2.1.length:Nat):Int):=c2;have e:(((((x.1+1).toNat:Nat):Int)-1,(((x.2.1.toNat:Nat):Int),(((x.2.2.1.toNat:Nat):Int),()))):Mv)=x:=mv_eq (by show(((x.1+1).toNat:Nat):Int)-1=x.1;omega) (by show((x.2.1.toNat:Nat):Int)=x.2.1;omega) (by show((x.2.2.1.toNat:Nat):Int)=x.2.2.1;omega);refine List.mem_flatMap.2 ⟨(x.1+1).toNat,List.mem_range.2 (by omega),List.mem_flatMap.2 ⟨x.2.1.toNat,List.mem_range.2 (by omega),List.mem_flatMap.2 ⟨x.2.2.1.toNat,List.mem_range.2 (by omega),?_⟩⟩⟩;unfold at3;rw[e,h,cond_true,List.mem_singleton]
theorem qo6 (r:Rules) (p:Place):(qe r p).Pairwise (fun x y=>mvLt x y=true):=by
  refine qk3 _ _ (fun i _=>qk3 _ _ (fun j _=>qk3 _ _ (fun k _=>?_) fun k k' hk x hx y hy=>?_) fun j j' hj x hx y hy=>?_) fun i i' hi x hx y hy=>?_
  · unfold at3
    cases qD r p ((i:Int)-1,((j:Int),((k:Int),())))<;>simp
  · obtain⟨ex,_⟩:=qm3 hx;obtain⟨ey,_⟩:=qm3 hy
    have e1:x.1=(i:Int)-1:=by rw[ex]
    have e2:x.2.1=(j:Int):=by rw[ex]
    have e3:x.2.2.1=(k:Int):=by rw[ex]
    have f1:y.1=(i:Int)-1:=by rw[ey]
    have f2:y.2.1=(j:Int):=by rw[ey]
    have f3:y.2.2.1=(k':Int):=by rw[ey]
    rw[qiF];omega
  · obtain⟨e1,e2,_⟩:=qni hx;obtain⟨f1,f2,_⟩:=qni hy;rw[qiF];omega
  · obtain⟨e1,_⟩:=qnQ hx;obtain⟨f1,_⟩:=qnQ hy;rw[qiF];omega
theorem raw_mem {r:Rules} {p:Place} (h:Valid r p) (x:Mv):x∈qb4 r p↔qD r p x=true:=by
  have hr:=h.r0;have hlen:((p.1.length:Nat):Int)=r.width*r.height:=h.cells;have hh:=qgP h;unfold qb4;rw[List.mem_append];constructor
  · rintro (hx | hx)
    · obtain⟨s,hs,hx⟩:=List.mem_flatMap.1 hx;rw[List.mem_range] at hs;unfold qex at hx
      cases hp:putOk r p (s:Int) with
      | false=>simp[hp] at hx
      | true =>
        rw[hp,cond_true] at hx;obtain⟨k,hk,hx⟩:=List.mem_flatMap.1 hx;rw[List.mem_range] at hk
        cases hd:decide (handI p (k:Int)>0) with
        | false=>simp[hd] at hx
        | true =>
          rw[hd,cond_true,List.mem_singleton] at hx;have hok:mvOk r p x=true:=by
            unfold mvOk;rw[decide_eq_true_eq,hx];simp only;omega
          unfold qD;rw[hok,Bool.true_and,hx];simp only[beq_t rfl,cond_true,hd,hp,Bool.and_self]
    · obtain⟨s,hs,hx⟩:=List.mem_flatMap.1 hx;rw[List.mem_range] at hs;unfold goAt at hx
      cases hm:mineB p (cellI p (s:Int)) with
      | false=>simp[hm] at hx
      | true =>
        have hcp:cellI p (s:Int)>0:=by unfold mineB at hm;simp at hm;exact hm.1
        have hk:=qdd h hcp;obtain⟨hpa,hmem⟩:=qio (r:=r) hk.2.1 hk.2.2;rw[hm,cond_true] at hx;obtain⟨w,hw,hx⟩:=List.mem_flatMap.1 hx;obtain⟨t,ht,hx⟩:=List.mem_map.1 hx;have htr:0≤t∧t<r.width*r.height:=qiA hr ht;have hpr:=hr.prom _ hmem;have hbr:0≤becomes r p (qZ (cellI p (s:Int))) t∧becomes r p (qZ (cellI p (s:Int))) t<((r.pieces.length:Nat):Int):=by
          unfold becomes
          cases hb:(decide ((qaP r (qZ (cellI p (s:Int)))).2.2.1>0)&&lastB r p.turn t) with
          | false=>exact hk.2
          | true =>
            simp only[Bool.and_eq_true,decide_eq_true_eq] at hb;rw[cond_true];omega
        have hok:mvOk r p x=true:=by
          unfold mvOk;rw[decide_eq_true_eq,←hx];simp only;omega
        unfold qD goOk;rw[hok,Bool.true_and,←hx];simp only;rw[beq_f (by omega),cond_false,hm,Bool.true_and,beq_t rfl,Bool.true_and,List.any_eq_true];exact⟨w,hw,by simpa using ht⟩
  · intro hx;unfold qD at hx;rw[Bool.and_eq_true] at hx;obtain⟨hok,hx⟩:=hx;unfold mvOk at hok;rw[decide_eq_true_eq] at hok;obtain⟨⟨a1,a2⟩,⟨b1,b2⟩,c1,c2⟩:=hok;by_cases hm:x.1 = -1
    · rw[beq_t hm,cond_true,Bool.and_eq_true] at hx;left
      have e1:((x.2.1.toNat:Nat):Int)=x.2.1:=by omega
      have e2:((x.2.2.1.toNat:Nat):Int)=x.2.2.1:=by omega
      refine List.mem_flatMap.2 ⟨x.2.1.toNat,List.mem_range.2 (by omega),?_⟩;unfold qex;rw[e1,hx.2,cond_true];refine List.mem_flatMap.2 ⟨x.2.2.1.toNat,List.mem_range.2 (by omega),?_⟩;rw[e2,hx.1,cond_true,List.mem_singleton];exact mv_eq hm rfl rfl
    · rw[beq_f hm,cond_false] at hx;unfold goOk at hx;simp only[Bool.and_eq_true,beq_iff_eq,List.any_eq_true,decide_eq_true_eq] at hx;obtain⟨h1,h2,w,hw,ht⟩:=hx;right
      have e1:((x.1.toNat:Nat):Int)=x.1:=by omega
      refine List.mem_flatMap.2 ⟨x.1.toNat,List.mem_range.2 (by omega),?_⟩;unfold goAt;rw[e1,h1,cond_true];refine List.mem_flatMap.2 ⟨w,hw,List.mem_map.2 ⟨x.2.1,ht,?_⟩⟩;exact mv_eq rfl rfl h2
theorem qje {r:Rules} {p:Place} (h:Valid r p):qbo r p=some (qe r p):=by
  rw[list_dd h];congr 1;refine qmz (dd_lt (sort_pw _)) (qo6 r p) fun z=>?_;rw[dd_mem,sort_mem,raw_mem h,qi2]
end Go.Proofs.Ytcifaoaepbidoaa
