/- Several texts in one: RecordS, AnnotateCutsS, DenS, DenP, CopyK, DenQ, RulesCore, DenL, CoreV, CoreM, CoreP, CoreN, CoreO, CoreR, CoreS2, CoreA, CoreB, GameP. -/
import Derived.Test.YthidcmjpbokeeaaGreatMAA
import Derived.Test.YthidcmjpbokeeaaGreatMAD
import Derived.Shelf.SlSortCmp.NoneTotal
import Derived.Laws.CopyRow
import Derived.Laws.Strings
namespace Go.Proofs.YthidcmjpbokeeaaGreat
open Go.Den
set_option linter.unusedVariables false
set_option maxRecDepth 100000
noncomputable section
def qa2 (s:ByteArray) (not:ByteArray) (x1:Zv52×(Unit)):Option (Zv47 ⊕ (Zv51 ⊕ Bool)) :=
  bif (decide (x1.1.1<((s.size:Nat):Int))) then(Option.bind (strAt s x1.1.1) fun c2 =>
  Option.bind (gopt (!(decide (((c2.toNat:Nat):Int)<32))) 0 (strAt s x1.1.1)) fun c3 =>
  Option.bind (gopt (!((decide (((c2.toNat:Nat):Int)<32))||(decide (((c3.toNat:Nat):Int)>126)))) 0 (strAt s x1.1.1)) fun c4 =>
  bif (((decide (((c2.toNat:Nat):Int)<32))||(decide (((c3.toNat:Nat):Int)>126)))||(decide ((qdj not ((c4.toNat:Nat):Int))≥0))) then some (Sum.inr (Sum.inr false))
  else some (Sum.inl (((w64 (x1.1.1+1)),()),())))
  else some (Sum.inr (Sum.inl ((),())))
def qbe (s:ByteArray) (not:ByteArray):Option (Bool) :=
  Option.bind (α:=Zv51 ⊕ Bool) (iterW (qa2 s not) (((0:Int),()),())) (Sum.elim (fun x5 =>
  some true) some)
def qdf (x:Zv36×ByteArray×Zv20×Int×Unit) (x1:Zv52×(Unit)) (d2:ByteArray×ByteArray×Unit) (x5:Zv52×(Unit)):Option (Zv47 ⊕ (Zv51 ⊕ (Zv47 ⊕ (Zv51 ⊕ Int)))) :=
  bif (decide (x5.1.1<((((x.1.take (x1.1.1).toNat).drop 0).length:Nat):Int))) then(Option.bind (at? ((x.1.take (x1.1.1).toNat).drop 0) x5.1.1) fun d6 =>
  bif (d6.1.toList==d2.1.toList) then(Option.map Sum.inr (Option.map Sum.inr (bif (decide (x5.1.1≥0)) then some (Sum.inr (Sum.inr (7:Int)))
  else some (Sum.inl (((w64 (x1.1.1+1)),()),())))))
  else some (Sum.inl (((w64 (x5.1.1+1)),()),())))
  else some (Sum.inr (Sum.inl ((),())))
def qc4 (x:Zv36×ByteArray×Zv20×Int×Unit) (x1:Zv52×(Unit)):Option (Zv47 ⊕ (Zv51 ⊕ Int)) :=
  bif (decide (x1.1.1<((x.1.length:Nat):Int))) then(Option.bind (at? x.1 x1.1.1) fun d2 =>
  Option.bind (qf8 d2.1) fun r3 =>
  bif (!r3) then some (Sum.inr (Sum.inr (6:Int)))
  else bif (decide (((d2.2.1.size:Nat):Int)>40)) then some (Sum.inr (Sum.inr (2:Int)))
  else Option.bind (qbe d2.2.1 (ByteArray.mk #[34])) fun r4 =>
  bif (!r4) then some (Sum.inr (Sum.inr (3:Int)))
  else req (qm (0:Int) x1.1.1 x.1.length) (Option.bind (α:=Zv51 ⊕ (Zv47 ⊕ (Zv51 ⊕ Int))) (iterW (qdf x x1 d2) (((0:Int),()),())) (Sum.elim (fun x7 =>
  some (Sum.inl (((w64 (x1.1.1+1)),()),()))) some)))
  else some (Sum.inr (Sum.inl ((),())))
def qgI (x:Zv36×ByteArray×Zv20×Int×Unit):Option (Int) :=
  Option.bind (α:=Zv51 ⊕ Int) (iterW (qc4 x) (((0:Int),()),())) (Sum.elim (fun x8 =>
  some (0:Int)) some)
def qbN (s:ByteArray):Option (Int) :=
  bif (decide (((s.size:Nat):Int)>60)) then some (2:Int)
  else Option.bind (qbe s (ByteArray.mk #[123,125])) fun r2 =>
  bif (!r2) then some (3:Int)
  else some (0:Int)
def qdH (node:Int) (x:Zv36×ByteArray×Zv20×Int×Unit) (x1:Zv52×(Unit)):Option (Zv47 ⊕ (Zv51 ⊕ Bool)) :=
  bif (decide (x1.1.1≥0)) then(bif (x1.1.1==node) then some (Sum.inr (Sum.inr true))
  else Option.bind (at? x.2.2.1 x1.1.1) fun d2 =>
  some (Sum.inl ((d2.1,()),())))
  else some (Sum.inr (Sum.inl ((),())))
def qgQ (x:Zv36×ByteArray×Zv20×Int×Unit) (node:Int) (last:Int):Option (Bool) :=
  Option.bind (α:=Zv51 ⊕ Bool) (iterW (qdH node x) ((last,()),())) (Sum.elim (fun x3 =>
  some (node==(-1:Int))) some)
def qd8 (x:Zv36×ByteArray×Zv20×Int×Unit) (x1:Zv30×(Unit)):Option (Zv22 ⊕ Zv26) :=
  bif (decide (x1.1.2.1≥0)) then(Option.bind (at? x.2.2.1 x1.1.2.1) fun d2 =>
  req (room (x1.1.1.length+([d2.2.1]).length) 24) (Option.bind (at? x.2.2.1 x1.1.2.1) fun d3 =>
  some (Sum.inl (((x1.1.1++[d2.2.1]),d3.1,()),()))))
  else some (Sum.inr ((x1.1.1,()),()))
def qcz (x5:Zv49×Zv32):Option (Zv19 ⊕ Zv27) :=
  bif (decide (x5.1.1<x5.1.2.1)) then req (inb x5.1.2.1 x5.2.1.length) (req (inb x5.1.1 x5.2.1.length) (req (inb x5.1.1 x5.2.1.length) (req (inb x5.1.2.1 (x5.2.1.set ((x5.1.1).toNat) (getD' x5.2.1 ((x5.1.2.1).toNat) ((0:Int),((0:Int),((0:Int),()))))).length) (some (Sum.inl (((w64 (x5.1.1+1)),(w64 (x5.1.2.1-1)),()),(((x5.2.1.set ((x5.1.1).toNat) (getD' x5.2.1 ((x5.1.2.1).toNat) ((0:Int),((0:Int),((0:Int),()))))).set ((x5.1.2.1).toNat) (getD' x5.2.1 ((x5.1.1).toNat) ((0:Int),((0:Int),((0:Int),()))))),())))))))
  else some (Sum.inr ((),(x5.2.1,())))
def qQ (x:Zv36×ByteArray×Zv20×Int×Unit) (node:Int):Option Zv39 :=
  Option.bind (iterW (qd8 x) ((([]:List Zv46),node,()),())) fun x4 =>
  Option.bind (iterW (qcz) (((0:Int),(w64 (((x4.1.1.length:Nat):Int)-1)),()),(x4.1.1,()))) fun x6 =>
  some x6.2.1
def qaO (x:Zv36×ByteArray×Zv20×Int×Unit) (i:Int) (d4:Int×Zv46×ByteArray×Unit) (x7:(Unit)×Zv48) (x8:Zv52×(Unit)):Option (Zv47 ⊕ (Zv51 ⊕ Zv50)) :=
  bif (decide (x8.1.1<((((x.2.2.1.take (i).toNat).drop 0).length:Nat):Int))) then(Option.bind (α:=Zv51 ⊕ (Zv47 ⊕ (Zv51 ⊕ Zv50))) (Option.bind (at? ((x.2.2.1.take (i).toNat).drop 0) x8.1.1) fun d9 =>
  bif (d9.1 !=d4.1) then some (Sum.inl ((),()))
  else bif ((d9.2.1.1==d4.2.1.1)&&((d9.2.1.2.1==d4.2.1.2.1)&&((d9.2.1.2.2.1==d4.2.1.2.2.1)&&true))) then some (Sum.inr (Sum.inr (Sum.inr (x7.2.1,(7:Int)))))
  else some (Sum.inl ((),()))) (Sum.elim (fun x10 =>
  some (Sum.inl (((w64 (x8.1.1+1)),()),()))) some))
  else some (Sum.inr (Sum.inl ((),())))
def qaP (x:Zv36×ByteArray×Zv20×Int×Unit) (i:Int) (d4:Int×Zv46×ByteArray×Unit) (x7:(Unit)×Zv48) (r:ByteArray×Int×Int×Zv13×Zv53×Bool×Bool×Zv33×Int×Int×Int×Unit) (x12:Zv52×(Unit)):Option (Zv47 ⊕ (Zv51 ⊕ Zv50)) :=
  bif (decide (x12.1.1<((((x.2.2.1.take (i).toNat).drop 0).length:Nat):Int))) then(Option.bind (at? ((x.2.2.1.take (i).toNat).drop 0) x12.1.1) fun d13 =>
  bif (d13.1==d4.1) then(Option.map Sum.inr (Option.map Sum.inr (Option.bind (bif (decide (x12.1.1≥0)) then req (inb i x7.2.1.length) (req (inb i x7.2.1.length) (some ((),((x7.2.1.set ((i).toNat) (w64 ((getD' x7.2.1 ((i).toNat) (0:Int))+1))),()))))
  else some ((),(x7.2.1,()))) fun x14 =>
  Option.bind (agree (agree (Option.bind (qQ x i) fun r15 =>
  agree (Option.bind (qag r r15) fun r16 =>
  some ((r16.2.2.1,()),())) (Option.bind (qag r r15) fun r17 =>
  some ((r17.2.2.1,()),()))) (Option.bind (qQ x i) fun r18 =>
  Option.bind (qag r r18) fun r19 =>
  some ((r19.2.2.1,()),()))) (agree (Option.bind (qQ x i) fun r20 =>
  agree (Option.bind (qag r r20) fun r21 =>
  some ((r21.2.2.1,()),())) (Option.bind (qag r r20) fun r22 =>
  some ((r22.2.2.1,()),()))) (agree (Option.bind (qQ x i) fun r23 =>
  Option.bind (qag r r23) fun r24 =>
  some ((r24.2.2.1,()),())) (Option.bind (qQ x i) fun r25 =>
  Option.bind (qag r r25) fun r26 =>
  some ((r26.2.2.1,()),()))))) fun x27 =>
  bif (x27.1.1 !=0) then some (x14.2.1,x27.1.1)
  else req (inb i x14.2.1.length) (bif (decide ((getD' x14.2.1 ((i).toNat) (0:Int))>20)) then some (x14.2.1,(2:Int))
  else some (x14.2.1,(0:Int))))))
  else some (Sum.inl (((w64 (x12.1.1+1)),()),())))
  else some (Sum.inr (Sum.inl ((),())))
def qdi (deep:List Int) (r:ByteArray×Int×Int×Zv13×Zv53×Bool×Bool×Zv33×Int×Int×Int×Unit) (x:Zv36×ByteArray×Zv20×Int×Unit) (i:Int):Option Zv50 :=
  Option.bind (at? x.2.2.1 i) fun d4 =>
  Option.bind (qbN d4.2.2.1) fun r5 =>
  bif (r5 !=0) then some (deep,r5)
  else Option.bind (gopt (!(decide (d4.1≥i))) false (qgQ x d4.1 (w64 (i-1)))) fun r6 =>
  bif ((decide (d4.1≥i))||(!r6)) then some (deep,(3:Int))
  else Option.bind (bif (decide (d4.1≥0)) then req (inb d4.1 deep.length) (req (inb i deep.length) (some ((),((deep.set ((i).toNat) (getD' deep ((d4.1).toNat) (0:Int))),()))))
  else some ((),(deep,()))) fun x7 =>
  req (qm (0:Int) i x.2.2.1.length) (Option.bind (α:=Zv51 ⊕ Zv50) (iterW (qaO x i d4 x7) (((0:Int),()),())) (Sum.elim (fun x11 =>
  req (qm (0:Int) i x.2.2.1.length) (Option.bind (α:=Zv51 ⊕ Zv50) (iterW (qaP x i d4 x7 r) (((0:Int),()),())) (Sum.elim (fun x28 =>
  Option.bind (agree (agree (Option.bind (qQ x i) fun r29 =>
  agree (Option.bind (qag r r29) fun r30 =>
  some ((r30.2.2.1,()),())) (Option.bind (qag r r29) fun r31 =>
  some ((r31.2.2.1,()),()))) (Option.bind (qQ x i) fun r32 =>
  Option.bind (qag r r32) fun r33 =>
  some ((r33.2.2.1,()),()))) (agree (Option.bind (qQ x i) fun r34 =>
  agree (Option.bind (qag r r34) fun r35 =>
  some ((r35.2.2.1,()),())) (Option.bind (qag r r34) fun r36 =>
  some ((r36.2.2.1,()),()))) (agree (Option.bind (qQ x i) fun r37 =>
  Option.bind (qag r r37) fun r38 =>
  some ((r38.2.2.1,()),())) (Option.bind (qQ x i) fun r39 =>
  Option.bind (qag r r39) fun r40 =>
  some ((r40.2.2.1,()),()))))) fun x41 =>
  bif (x41.1.1 !=0) then some (x7.2.1,x41.1.1)
  else req (inb i x7.2.1.length) (bif (decide ((getD' x7.2.1 ((i).toNat) (0:Int))>20)) then some (x7.2.1,(2:Int))
  else some (x7.2.1,(0:Int)))) some))) some))
def qT (x:Zv36×ByteArray×Zv20×Int×Unit) (r:ByteArray×Int×Int×Zv13×Zv53×Bool×Bool×Zv33×Int×Int×Int×Unit) (x7:Zv52×Zv48):Option ((Zv52×Zv48) ⊕ (((Unit)×Zv48) ⊕ Int)) :=
  bif (decide (x7.1.1<((x.2.2.1.length:Nat):Int))) then(Option.bind (qdi x7.2.1 r x x7.1.1) fun r8 =>
  bif (r8.2 !=0) then some (Sum.inr (Sum.inr r8.2))
  else some (Sum.inl (((w64 (x7.1.1+1)),()),(r8.1,()))))
  else some (Sum.inr (Sum.inl ((),(x7.2.1,()))))
def qbF (r:ByteArray×Int×Int×Zv13×Zv53×Bool×Bool×Zv33×Int×Int×Int×Unit) (x:Zv36×ByteArray×Zv20×Int×Unit):Option (Int) :=
  Option.bind (qdg r) fun r4 =>
  bif (r4 !=0) then some r4
  else bif ((decide (((x.1.length:Nat):Int)>10))||(decide (((x.2.2.1.length:Nat):Int)>200))) then some (2:Int)
  else Option.bind (qgI x) fun r5 =>
  bif (r5 !=0) then some r5
  else bif ((decide (x.2.2.2.1<0))||(decide (x.2.2.2.1>3))) then some (4:Int)
  else Option.bind (qbN x.2.1) fun r6 =>
  bif (r6 !=0) then some r6
  else req (decide (0≤((x.2.2.1.length:Nat):Int))&&(((x.2.2.1.length:Nat):Int)==((x.2.2.1.length:Nat):Int)&&room (((x.2.2.1.length:Nat):Int)).toNat 8)) (Option.bind (α:=((Unit)×Zv48) ⊕ Int) (iterW (qT x r) (((0:Int),()),((List.replicate (((x.2.2.1.length:Nat):Int)).toNat (0:Int)),()))) (Sum.elim (fun x9 =>
  some (0:Int)) some))
def qda (x:Zv36×ByteArray×Zv20×Int×Unit) (parent:Int) (x1:Zv44×(Unit)):Option ((Zv44×(Unit)) ⊕ Zv41) :=
  bif (decide (x1.1.2.1<((x.2.2.1.length:Nat):Int))) then(Option.bind (at? x.2.2.1 x1.1.2.1) fun d2 =>
  Option.bind (bif (d2.1==parent) then req (room (x1.1.1.length+([x1.1.2.1]).length) 8) (some (((x1.1.1++[x1.1.2.1]),()),()))
  else some ((x1.1.1,()),())) fun x3 =>
  some (Sum.inl ((x3.1.1,(w64 (x1.1.2.1+1)),()),())))
  else some (Sum.inr ((x1.1.1,()),()))
def qgJ (x:Zv36×ByteArray×Zv20×Int×Unit) (parent:Int):Option Zv53 :=
  Option.bind (iterW (qda x parent) ((([]:List Int),(0:Int),()),())) fun x4 =>
  some x4.1.1
def qfd (s:ByteArray) (x5:Zv52×(Unit)):Option (Zv47 ⊕ (Zv51 ⊕ Bool)) :=
  bif (decide (x5.1.1<(((qq s).length:Nat):Int))) then(req (inb x5.1.1 (qq s).length) (bif (((decide ((getD' (qq s) ((x5.1.1).toNat) (0:Int))<65))||(decide ((getD' (qq s) ((x5.1.1).toNat) (0:Int))>90)))&&((decide ((getD' (qq s) ((x5.1.1).toNat) (0:Int))<48))||(decide ((getD' (qq s) ((x5.1.1).toNat) (0:Int))>57)))) then some (Sum.inr (Sum.inr false))
  else some (Sum.inl (((w64 (x5.1.1+1)),()),()))))
  else some (Sum.inr (Sum.inl ((),())))
def qkM (s:ByteArray):Option (Bool) :=
  Option.bind (gopt (!((s.toList==(ByteArray.mk #[]).toList)||(decide (((s.size:Nat):Int)>8)))) 0 (strAt s (0:Int))) fun c3 =>
  Option.bind (gopt (!(((s.toList==(ByteArray.mk #[]).toList)||(decide (((s.size:Nat):Int)>8)))||(decide (((c3.toNat:Nat):Int)<65)))) 0 (strAt s (0:Int))) fun c4 =>
  bif ((((s.toList==(ByteArray.mk #[]).toList)||(decide (((s.size:Nat):Int)>8)))||(decide (((c3.toNat:Nat):Int)<65)))||(decide (((c4.toNat:Nat):Int)>90))) then some false
  else req (Nat.ble s.size 140737488355328) (Option.bind (α:=Zv51 ⊕ Bool) (iterW (qfd s) (((0:Int),()),())) (Sum.elim (fun x6 =>
  some true) some))
def qfl (without:ByteArray) (s:ByteArray) (x1:Zv52×(Unit)) (x2:Zv52×(Unit)):Option (Zv47 ⊕ (Zv51 ⊕ (Zv51 ⊕ (Zv47 ⊕ (Zv51 ⊕ Bool))))) :=
  bif (decide (x2.1.1<(((qq without).length:Nat):Int))) then(req (inb x2.1.1 (qq without).length) (bif ((getD' (qq s) ((x1.1.1).toNat) (0:Int))==(getD' (qq without) ((x2.1.1).toNat) (0:Int))) then some (Sum.inr (Sum.inr (Sum.inr (Sum.inr (Sum.inr false)))))
  else some (Sum.inl (((w64 (x2.1.1+1)),()),()))))
  else some (Sum.inr (Sum.inl ((),())))
def qe1 (s:ByteArray) (without:ByteArray) (x1:Zv52×(Unit)):Option (Zv47 ⊕ (Zv51 ⊕ Bool)) :=
  bif (decide (x1.1.1<(((qq s).length:Nat):Int))) then(Option.bind (α:=Zv51 ⊕ (Zv47 ⊕ (Zv51 ⊕ Bool))) (req (inb x1.1.1 (qq s).length) (req (Nat.ble without.size 140737488355328) (Option.bind (α:=Zv51 ⊕ (Zv51 ⊕ (Zv47 ⊕ (Zv51 ⊕ Bool)))) (iterW (qfl without s x1) (((0:Int),()),())) (Sum.elim (fun x3 =>
  bif ((decide ((getD' (qq s) ((x1.1.1).toNat) (0:Int))<32))||(decide ((getD' (qq s) ((x1.1.1).toNat) (0:Int))>126))) then some (Sum.inr (Sum.inr (Sum.inr false)))
  else some (Sum.inl ((),()))) some)))) (Sum.elim (fun x4 =>
  some (Sum.inl (((w64 (x1.1.1+1)),()),()))) some))
  else some (Sum.inr (Sum.inl ((),())))
def qgC (s:ByteArray) (without:ByteArray):Option (Bool) :=
  req (Nat.ble s.size 140737488355328) (Option.bind (α:=Zv51 ⊕ Bool) (iterW (qe1 s without) (((0:Int),()),())) (Sum.elim (fun x5 =>
  some true) some))
def qbH (a:Int) (l:List Zv28) (x1:Zv52×(Unit)):Option (Zv47 ⊕ Zv47) :=
  bif ((decide (x1.1.1>a))&&(decide (x1.1.1≥0))) then(Option.bind (at? l x1.1.1) fun d2 =>
  some (Sum.inl ((d2.1,()),())))
  else some (Sum.inr ((x1.1.1,()),()))
def qeu (l:List Zv28) (a:Int) (i:Int):Option (Bool) :=
  Option.bind (iterW (qbH a l) ((i,()),())) fun x3 =>
  some (x3.1.1==a)
def qme (self:Zv12→Option Zv29) (l:List Zv28) (i:Int):Option Zv29 :=
  bif (i==(-1:Int)) then some (([]:List Zv46),(true,()))
  else Option.bind (gat (!((decide (i<0))||(decide (i≥((l.length:Nat):Int))))) ((0:Int),(((0:Int),((0:Int),((0:Int),()))),(ByteArray.empty,()))) l i) fun d5 =>
  bif (((decide (i<0))||(decide (i≥((l.length:Nat):Int))))||(decide (d5.1≥i))) then some (([]:List Zv46),(false,()))
  else Option.bind (at? l i) fun d6 =>
  Option.bind (self (l,d6.1,())) fun r7 =>
  Option.bind (at? l i) fun d8 =>
  req (room (r7.1.length+([d8.2.1]).length) 24) (some ((r7.1++[d8.2.1]),r7.2))
def qcC (self:Zv12→Option Zv29) (x:Zv20×Int×Unit):Option Zv29:=qme self x.1 x.2.1
def qkV (l:List Zv28) (i:Int):Option Zv29:=fixW qcC (l,i,())
def qL (x1:Zv49×(Unit)) (l:List Zv28) (x2:Zv49×(Unit)):Option (Zv43 ⊕ Zv47) :=
  bif (decide (x2.1.2.1<x1.1.1)) then(Option.bind (at? l x2.1.2.1) fun d3 =>
  Option.bind (at? l x1.1.1) fun d4 =>
  bif (d3.1==d4.1) then some (Sum.inr (((w64 (x2.1.1+1)),()),()))
  else some (Sum.inl ((x2.1.1,(w64 (x2.1.2.1+1)),()),())))
  else some (Sum.inr ((x2.1.1,()),()))
def qaQ (l:List Zv28) (x1:Zv49×(Unit)):Option (Zv43 ⊕ Zv47) :=
  bif (decide (x1.1.1≥0)) then(Option.bind (Option.bind (iterW (qL x1 l) ((x1.1.2.1,(0:Int),()),())) fun x5 =>
  some ((x5.1.1,()),())) fun x6 =>
  Option.bind (at? l x1.1.1) fun d7 =>
  some (Sum.inl ((d7.1,x6.1.1,()),())))
  else some (Sum.inr ((x1.1.2.1,()),()))
def qdm (l:List Zv28) (i:Int):Option (Int) :=
  Option.bind (iterW (qaQ l) ((i,(0:Int),()),())) fun x8 =>
  some x8.1.1
def qaZ (x4:Zv52×(Unit)) (x:Zv36×ByteArray×Zv20×Int×Unit) (d5:ByteArray×ByteArray×Unit) (x8:Zv52×(Unit)):Option (Zv47 ⊕ (Zv51 ⊕ (Zv51 ⊕ (Zv47 ⊕ (Zv51 ⊕ Int))))) :=
  bif (decide (x8.1.1<x4.1.1)) then(Option.bind (at? x.1 x8.1.1) fun d9 =>
  bif (d9.1.toList==d5.1.toList) then some (Sum.inr (Sum.inr (Sum.inr (Sum.inr (Sum.inr (7:Int))))))
  else some (Sum.inl (((w64 (x8.1.1+1)),()),())))
  else some (Sum.inr (Sum.inl ((),())))
def qaw (x:Zv36×ByteArray×Zv20×Int×Unit) (x4:Zv52×(Unit)):Option (Zv47 ⊕ (Zv51 ⊕ Int)) :=
  bif (decide (x4.1.1<((x.1.length:Nat):Int))) then(Option.bind (α:=Zv51 ⊕ (Zv47 ⊕ (Zv51 ⊕ Int))) (Option.bind (at? x.1 x4.1.1) fun d5 =>
  Option.bind (qkM d5.1) fun r6 =>
  bif (!r6) then some (Sum.inr (Sum.inr (Sum.inr (6:Int))))
  else bif (decide (((d5.2.1.size:Nat):Int)>40)) then some (Sum.inr (Sum.inr (Sum.inr (2:Int))))
  else Option.bind (qgC d5.2.1 (ByteArray.mk #[34])) fun r7 =>
  bif (!r7) then some (Sum.inr (Sum.inr (Sum.inr (3:Int))))
  else Option.bind (α:=Zv51 ⊕ (Zv51 ⊕ (Zv47 ⊕ (Zv51 ⊕ Int)))) (iterW (qaZ x4 x d5) (((0:Int),()),())) (Sum.elim (fun x10 =>
  some (Sum.inl ((),()))) some)) (Sum.elim (fun x11 =>
  some (Sum.inl (((w64 (x4.1.1+1)),()),()))) some))
  else some (Sum.inr (Sum.inl ((),())))
def qO (x14:Zv52×(Unit)) (x:Zv36×ByteArray×Zv20×Int×Unit) (d15:Int×Zv46×ByteArray×Unit) (x18:Zv52×(Unit)):Option (Zv47 ⊕ (Zv51 ⊕ (Zv51 ⊕ (Zv47 ⊕ (Zv51 ⊕ Int))))) :=
  bif (decide (x18.1.1<x14.1.1)) then(Option.bind (at? x.2.2.1 x18.1.1) fun d19 =>
  Option.bind (gat (d19.1==d15.1) ((0:Int),(((0:Int),((0:Int),((0:Int),()))),(ByteArray.empty,()))) x.2.2.1 x18.1.1) fun d20 =>
  bif ((d19.1==d15.1)&&((d20.2.1.1==d15.2.1.1)&&((d20.2.1.2.1==d15.2.1.2.1)&&((d20.2.1.2.2.1==d15.2.1.2.2.1)&&true)))) then some (Sum.inr (Sum.inr (Sum.inr (Sum.inr (Sum.inr (7:Int))))))
  else some (Sum.inl (((w64 (x18.1.1+1)),()),())))
  else some (Sum.inr (Sum.inl ((),())))
def qx (x:Zv36×ByteArray×Zv20×Int×Unit) (r:ByteArray×Int×Int×Zv13×Zv53×Bool×Bool×Zv33×Int×Int×Int×Unit) (x14:Zv52×(Unit)):Option (Zv47 ⊕ (Zv51 ⊕ Int)) :=
  bif (decide (x14.1.1<((x.2.2.1.length:Nat):Int))) then(Option.bind (α:=Zv51 ⊕ (Zv47 ⊕ (Zv51 ⊕ Int))) (Option.bind (at? x.2.2.1 x14.1.1) fun d15 =>
  bif (decide (((d15.2.2.1.size:Nat):Int)>60)) then some (Sum.inr (Sum.inr (Sum.inr (2:Int))))
  else Option.bind (qgC d15.2.2.1 (ByteArray.mk #[123,125])) fun r16 =>
  bif (!r16) then some (Sum.inr (Sum.inr (Sum.inr (3:Int))))
  else Option.bind (gopt (((decide (x14.1.1>0))&&(decide (d15.1≥0)))&&(!((decide (d15.1<(-1:Int)))||(decide (d15.1≥x14.1.1))))) false (qeu x.2.2.1 d15.1 (w64 (x14.1.1-1)))) fun r17 =>
  bif ((((decide (d15.1<(-1:Int)))||(decide (d15.1≥x14.1.1)))||(((decide (x14.1.1>0))&&(decide (d15.1≥0)))&&(!r17)))||((x14.1.1==0)&&(d15.1 !=(-1:Int)))) then some (Sum.inr (Sum.inr (Sum.inr (3:Int))))
  else Option.bind (α:=Zv51 ⊕ (Zv51 ⊕ (Zv47 ⊕ (Zv51 ⊕ Int)))) (iterW (qO x14 x d15) (((0:Int),()),())) (Sum.elim (fun x21 =>
  Option.bind (qkV x.2.2.1 x14.1.1) fun r22 =>
  Option.bind (qeR r r22.1) fun r23 =>
  bif (r23.2.1 !=0) then some (Sum.inr (Sum.inr (Sum.inr r23.2.1)))
  else some (Sum.inl ((),()))) some)) (Sum.elim (fun x24 =>
  some (Sum.inl (((w64 (x14.1.1+1)),()),()))) some))
  else some (Sum.inr (Sum.inl ((),())))
def qp (x:Zv36×ByteArray×Zv20×Int×Unit) (x26:Zv52×(Unit)):Option (Zv47 ⊕ (Zv51 ⊕ Int)) :=
  bif (decide (x26.1.1<((x.2.2.1.length:Nat):Int))) then(Option.bind (qdm x.2.2.1 x26.1.1) fun r27 =>
  bif (decide (r27>20)) then some (Sum.inr (Sum.inr (2:Int)))
  else some (Sum.inl (((w64 (x26.1.1+1)),()),())))
  else some (Sum.inr (Sum.inl ((),())))
def qM (r:ByteArray×Int×Int×Zv13×Zv53×Bool×Bool×Zv33×Int×Int×Int×Unit) (x:Zv36×ByteArray×Zv20×Int×Unit):Option (Int) :=
  Option.bind (qeR r ([]:List Zv46)) fun r3 =>
  bif (r3.2.1 !=0) then some r3.2.1
  else bif ((decide (((x.1.length:Nat):Int)>10))||(decide (((x.2.2.1.length:Nat):Int)>200))) then some (2:Int)
  else Option.bind (α:=Zv51 ⊕ Int) (iterW (qaw x) (((0:Int),()),())) (Sum.elim (fun x12 =>
  bif ((decide (x.2.2.2.1<0))||(decide (x.2.2.2.1>3))) then some (4:Int)
  else bif (decide (((x.2.1.size:Nat):Int)>60)) then some (2:Int)
  else Option.bind (qgC x.2.1 (ByteArray.mk #[123,125])) fun r13 =>
  bif (!r13) then some (3:Int)
  else Option.bind (α:=Zv51 ⊕ Int) (iterW (qx x r) (((0:Int),()),())) (Sum.elim (fun x25 =>
  Option.bind (α:=Zv51 ⊕ Int) (iterW (qp x) (((0:Int),()),())) (Sum.elim (fun x28 =>
  some (0:Int)) some)) some)) some)
def qf0 (x:Zv36×ByteArray×Zv20×Int×Unit):Option Zv6 :=
  req (qm (0:Int) (if (30:Int)<((x.2.2.1.length:Nat):Int) then(30:Int) else((x.2.2.1.length:Nat):Int)) x.2.2.1.length) (some (x.1,(x.2.1,(((x.2.2.1.take ((if (30:Int)<((x.2.2.1.length:Nat):Int) then(30:Int) else((x.2.2.1.length:Nat):Int))).toNat).drop 0),x.2.2.2))))
end
noncomputable section
def qX (r:ByteArray×Int×Int×Zv13×Zv53×Bool×Bool×Zv33×Int×Int×Int×Unit) (x:Zv36×ByteArray×Zv20×Int×Unit) (node:Int):Option (Int) :=
  Option.bind (qbF r x) fun r2 =>
  bif (r2 !=0) then some r2
  else bif ((decide (node<0))||(decide (node≥((x.2.2.1.length:Nat):Int)))) then some (1:Int)
  else some (0:Int)
def qcJ (r:ByteArray×Int×Int×Zv13×Zv53×Bool×Bool×Zv33×Int×Int×Int×Unit) (x:Zv36×ByteArray×Zv20×Int×Unit) (node:Int):Option Zv30 :=
  Option.bind (qX r x node) fun r3 =>
  bif (r3 !=0) then some (([]:List Zv46),(r3,()))
  else Option.bind (qQ x node) fun r4 =>
  some (r4,((0:Int),()))
def qc5:Option (Bool) :=
  Option.bind (qcJ ((qS).1,(((qS).2).1,((((qS).2).2).1,(((((qS).2).2).2).1,((((((qS).2).2).2).2).1,(((((((qS).2).2).2).2).2).1,((((((((qS).2).2).2).2).2).2).1,(((((((((qS).2).2).2).2).2).2).2).1,((((((((((qS).2).2).2).2).2).2).2).2).1,(((((((((((qS).2).2).2).2).2).2).2).2).2).1,((((((((((((qS).2).2).2).2).2).2).2).2).2).2).1,()))))))))))) (([]:List Zv42),((ByteArray.mk #[]),([((-1:Int),((qiM (0:Int)),((ByteArray.mk #[]),())))],((0:Int),())))) (0:Int)) fun r2 =>
  some ((r2.2.1==0)&&(((r2.1.length:Nat):Int)==1))
def qK (r2:List Int) (x:Zv36×ByteArray×Zv20×Int×Unit) (self:((List Nat)×Unit×(List (Zv31×(Option (List Nat))))×Zv6×Int×Unit)→Option ((List Nat)×(List (Zv31×(Option (List Nat))))×(List Nat))) (x3:((List Nat)×Int×Unit)×((List Nat)×(List (Zv31×(Option (List Nat))))×Unit)):Option ((((List Nat)×Int×Unit)×((List Nat)×(List (Zv31×(Option (List Nat))))×Unit)) ⊕ (((List Nat)×Unit)×((List Nat)×(List (Zv31×(Option (List Nat))))×Unit))) :=
  bif (decide (x3.1.2.1<((r2.length:Nat):Int))) then(req (inb x3.1.2.1 r2.length) (Option.bind (at? x.2.2.1 (getD' r2 ((x3.1.2.1).toNat) (0:Int))) fun d4 =>
  Option.bind (at? x.2.2.1 (getD' r2 ((x3.1.2.1).toNat) (0:Int))) fun d5 =>
  Option.bind (some (addP x3.2.2.1 (d4.2.1,d5.2.2))) fun ns6 =>
  req (inb (getD' r2 ((x3.1.2.1).toNat) (0:Int)) x3.2.1.length) (Option.bind (some (getD' x3.2.1 (((getD' r2 ((x3.1.2.1).toNat) (0:Int))).toNat) (0:Nat))) fun e7 =>
  Option.bind (some (x3.2.1.set (((getD' r2 ((x3.1.2.1).toNat) (0:Int))).toNat) (x3.2.2.1.length+1))) fun y8 =>
  Option.bind (self (y8,(),ns6,x,(getD' r2 ((x3.1.2.1).toNat) (0:Int)),())) fun r9 =>
  req (Nat.blt 0 (x3.2.2.1.length+1)) (Option.bind (some (putP r9.2.1 (((0:Int),((0:Int),((0:Int),()))),(ByteArray.empty,())) (x3.2.2.1.length+1) r9.2.2)) fun ns10 =>
  req (room (x3.1.1.length+([(x3.2.2.1.length+1)]).length) 8) (some (Sum.inl (((x3.1.1++[(x3.2.2.1.length+1)]),(w64 (x3.1.2.1+1)),()),(r9.1,ns10,()))))))))
  else some (Sum.inr ((x3.1.1,()),(x3.2.1,x3.2.2.1,())))
def qcp (self:((List Nat)×Unit×(List (Zv31×(Option (List Nat))))×Zv6×Int×Unit)→Option ((List Nat)×(List (Zv31×(Option (List Nat))))×(List Nat))) (where':List Nat) (ns:List (Zv31×(Option (List Nat)))) (x:Zv36×ByteArray×Zv20×Int×Unit) (parent:Int):Option ((List Nat)×(List (Zv31×(Option (List Nat))))×(List Nat)) :=
  Option.bind (qgJ x parent) fun r2 =>
  Option.bind (iterW (qK r2 x self) ((([]:List Nat),(0:Int),()),(where',ns,()))) fun x11 =>
  some (x11.2.1,x11.2.2.1,x11.1.1)
def qJ (self:((List Nat)×Unit×(List (Zv31×(Option (List Nat))))×Zv6×Int×Unit)→Option ((List Nat)×(List (Zv31×(Option (List Nat))))×(List Nat))) (x:(List Nat)×Unit×(List (Zv31×(Option (List Nat))))×Zv6×Int×Unit):Option ((List Nat)×(List (Zv31×(Option (List Nat))))×(List Nat)):=qcp self x.1 x.2.2.1 x.2.2.2.1 x.2.2.2.2.1
def qcG (where':List Nat) (ns:List (Zv31×(Option (List Nat)))) (x:Zv36×ByteArray×Zv20×Int×Unit) (parent:Int):Option ((List Nat)×(List (Zv31×(Option (List Nat))))×(List Nat)):=fixW qJ (where',(),ns,x,parent,())
def qf (s:List Zv42):Option Zv36 :=
  bif (s.isEmpty) then(agree (some ([]:List Zv42)) (req (room (([]:List Zv42).length+s.length) 32) (some (([]:List Zv42)++s))))
  else req (room (([]:List Zv42).length+s.length) 32) (some (([]:List Zv42)++s))
def qG (l:List Nat) (parent:Int) (self:(Zv20×Unit×(List ((Zv46×ByteArray×(List Nat)×Unit)×(Option (List Nat))))×(List Nat)×Int×Unit)→Option (Zv20×(List ((Zv46×ByteArray×(List Nat)×Unit)×(Option (List Nat))))×Unit)) (x1:Zv52×(Zv14×(List ((Zv46×ByteArray×(List Nat)×Unit)×(Option (List Nat))))×Unit)):Option ((Zv52×(Zv14×(List ((Zv46×ByteArray×(List Nat)×Unit)×(Option (List Nat))))×Unit)) ⊕ ((Unit)×(Zv14×(List ((Zv46×ByteArray×(List Nat)×Unit)×(Option (List Nat))))×Unit))) :=
  bif (decide (x1.1.1<((l.length:Nat):Int))) then(Option.bind (at? l x1.1.1) fun d2 =>
  req (Nat.blt 0 d2) (req (Nat.blt 0 d2) (req (room (x1.2.1.1.length+([(parent,((((ndP x1.2.2.1 (((0:Int),((0:Int),((0:Int),()))),(ByteArray.empty,([],()))) d2).1).1,((((ndP x1.2.2.1 (((0:Int),((0:Int),((0:Int),()))),(ByteArray.empty,([],()))) d2).1).2).1,(((((ndP x1.2.2.1 (((0:Int),((0:Int),((0:Int),()))),(ByteArray.empty,([],()))) d2).1).2).2).1,()))),(((ndP x1.2.2.1 (((0:Int),((0:Int),((0:Int),()))),(ByteArray.empty,([],()))) d2).2).1,())))]).length) 48) (req (Nat.blt 0 d2) (Option.bind (self ((x1.2.1.1++[(parent,((((ndP x1.2.2.1 (((0:Int),((0:Int),((0:Int),()))),(ByteArray.empty,([],()))) d2).1).1,((((ndP x1.2.2.1 (((0:Int),((0:Int),((0:Int),()))),(ByteArray.empty,([],()))) d2).1).2).1,(((((ndP x1.2.2.1 (((0:Int),((0:Int),((0:Int),()))),(ByteArray.empty,([],()))) d2).1).2).2).1,()))),(((ndP x1.2.2.1 (((0:Int),((0:Int),((0:Int),()))),(ByteArray.empty,([],()))) d2).2).1,())))]),(),x1.2.2.1,(((ndP x1.2.2.1 (((0:Int),((0:Int),((0:Int),()))),(ByteArray.empty,([],()))) d2).2).2).1,((x1.2.1.1.length:Nat):Int),())) fun r3 =>
  some (Sum.inl (((w64 (x1.1.1+1)),()),((r3.1,()),r3.2.1,()))))))))
  else some (Sum.inr ((),((x1.2.1.1,()),x1.2.2.1,())))
def qbT (self:(Zv20×Unit×(List ((Zv46×ByteArray×(List Nat)×Unit)×(Option (List Nat))))×(List Nat)×Int×Unit)→Option (Zv20×(List ((Zv46×ByteArray×(List Nat)×Unit)×(Option (List Nat))))×Unit)) (v:List Zv28) (ns:List ((Zv46×ByteArray×(List Nat)×Unit)×(Option (List Nat)))) (l:List Nat) (parent:Int):Option (Zv20×(List ((Zv46×ByteArray×(List Nat)×Unit)×(Option (List Nat))))×Unit) :=
  Option.bind (iterW (qG l parent self) (((0:Int),()),((v,()),ns,()))) fun x4 =>
  some (x4.2.1.1,x4.2.2.1,())
def qE (self:(Zv20×Unit×(List ((Zv46×ByteArray×(List Nat)×Unit)×(Option (List Nat))))×(List Nat)×Int×Unit)→Option (Zv20×(List ((Zv46×ByteArray×(List Nat)×Unit)×(Option (List Nat))))×Unit)) (x:Zv20×Unit×(List ((Zv46×ByteArray×(List Nat)×Unit)×(Option (List Nat))))×(List Nat)×Int×Unit):Option (Zv20×(List ((Zv46×ByteArray×(List Nat)×Unit)×(Option (List Nat))))×Unit):=qbT self x.1 x.2.2.1 x.2.2.2.1 x.2.2.2.2.1
def qeX (v:List Zv28) (ns:List ((Zv46×ByteArray×(List Nat)×Unit)×(Option (List Nat)))) (l:List Nat) (parent:Int):Option (Zv20×(List ((Zv46×ByteArray×(List Nat)×Unit)×(Option (List Nat))))×Unit):=fixW qE (v,(),ns,l,parent,())
def qd (ns:List ((Zv46×ByteArray×(List Nat)×Unit)×(Option (List Nat)))) (l:List Nat):Option (Unit×(List ((Zv46×ByteArray×(List Nat)×Unit)×(Option (List Nat))))×Zv20) :=
  Option.bind (qeX ([]:List Zv28) ns l (-1:Int)) fun r2 =>
  some ((),r2.2.1,r2.1)
def qeq (r8:(List Nat)×(List (Zv31×(Option (List Nat))))×(List Nat)) (d9:Int×Zv46×ByteArray×Unit) (node:Int) (x10:Zv52×(Unit)):Option (Zv47 ⊕ (Zv51 ⊕ Zv47)) :=
  bif (decide (x10.1.1<(((kdP r8.2.1 (((0:Int),((0:Int),((0:Int),()))),(ByteArray.empty,())) (getD' r8.1 ((d9.1).toNat) (0:Nat))).length:Nat):Int))) then(req (inb x10.1.1 (kdP r8.2.1 (((0:Int),((0:Int),((0:Int),()))),(ByteArray.empty,())) (getD' r8.1 ((d9.1).toNat) (0:Nat))).length) (bif (Nat.beq (getD' r8.1 ((node).toNat) (0:Nat)) (getD' (kdP r8.2.1 (((0:Int),((0:Int),((0:Int),()))),(ByteArray.empty,())) (getD' r8.1 ((d9.1).toNat) (0:Nat))) ((x10.1.1).toNat) 0)) then some (Sum.inr (Sum.inr ((x10.1.1,()),())))
  else some (Sum.inl (((w64 (x10.1.1+1)),()),()))))
  else some (Sum.inr (Sum.inl ((),())))
def qeo (r8:(List Nat)×(List (Zv31×(Option (List Nat))))×(List Nat)) (node:Int) (x32:Zv52×(Unit)):Option (Zv47 ⊕ (Zv51 ⊕ Zv47)) :=
  bif (decide (x32.1.1<((r8.2.2.length:Nat):Int))) then(req (inb x32.1.1 r8.2.2.length) (bif (Nat.beq (getD' r8.1 ((node).toNat) (0:Nat)) (getD' r8.2.2 ((x32.1.1).toNat) (0:Nat))) then some (Sum.inr (Sum.inr ((x32.1.1,()),())))
  else some (Sum.inl (((w64 (x32.1.1+1)),()),()))))
  else some (Sum.inr (Sum.inl ((),())))
def qbE (r:ByteArray×Int×Int×Zv13×Zv53×Bool×Bool×Zv33×Int×Int×Int×Unit) (x:Zv36×ByteArray×Zv20×Int×Unit) (node:Int):Option Zv5 :=
  Option.bind (qX r x node) fun r7 =>
  bif (r7 !=0) then some ((([]:List Zv42),((ByteArray.mk #[]),(([]:List Zv28),((0:Int),())))),(r7,()))
  else req (decide (0≤((x.2.2.1.length:Nat):Int))&&(((x.2.2.1.length:Nat):Int)==((x.2.2.1.length:Nat):Int)&&room (((x.2.2.1.length:Nat):Int)).toNat 8)) (Option.bind (qcG (List.replicate (((x.2.2.1.length:Nat):Int)).toNat (0:Nat)) ([]:List (Zv31×(Option (List Nat)))) x (-1:Int)) fun r8 =>
  Option.bind (at? x.2.2.1 node) fun d9 =>
  bif (decide (d9.1≥0)) then(req (inb d9.1 r8.1.length) (req (Nat.blt 0 (getD' r8.1 ((d9.1).toNat) (0:Nat))) (Option.bind (req (inb node r8.1.length) (Option.bind (α:=Zv51 ⊕ Zv47) (iterW (qeq r8 d9 node) (((0:Int),()),())) (Sum.elim (fun x11 =>
  some (((-1:Int),()),())) some))) fun x12 =>
  req (decide (0≤x12.1.1)&&(decide (x12.1.1≤(w64 (x12.1.1+1)))&&decide ((w64 (x12.1.1+1))≤(((kdP r8.2.1 (((0:Int),((0:Int),((0:Int),()))),(ByteArray.empty,())) (getD' r8.1 ((d9.1).toNat) (0:Nat))).length:Nat):Int)))) (req (Nat.beq ((getD' r8.1 ((d9.1).toNat) (0:Nat))-1) ((getD' r8.1 ((d9.1).toNat) (0:Nat))-1)) (Option.bind (some (putP r8.2.1 (((0:Int),((0:Int),((0:Int),()))),(ByteArray.empty,())) (getD' r8.1 ((d9.1).toNat) (0:Nat)) ((kdP r8.2.1 (((0:Int),((0:Int),((0:Int),()))),(ByteArray.empty,())) (getD' r8.1 ((d9.1).toNat) (0:Nat))).take (x12.1.1).toNat++(kdP r8.2.1 (((0:Int),((0:Int),((0:Int),()))),(ByteArray.empty,())) (getD' r8.1 ((d9.1).toNat) (0:Nat))).drop ((w64 (x12.1.1+1))).toNat))) fun ns13 =>
  Option.bind (some (List.map (fun (x:Zv31×Option (List Nat))=>((x.1.1,(x.1.2.1,(x.2.getD [],()))),(none:Option (List Nat)))) ns13)) fun ns14 =>
  Option.bind (agree (Option.bind (qf x.1) fun r15 =>
  agree (agree (Option.bind (qd ns14 r8.2.2) fun r16 =>
  some ((),(r16.2.1,(r15,(x.2.1,(r16.2.2,x.2.2.2))),()))) (Option.bind (qd ns14 r8.2.2) fun r17 =>
  some ((),(r17.2.1,(r15,(x.2.1,(r17.2.2,x.2.2.2))),())))) (agree (Option.bind (qd ns14 r8.2.2) fun r18 =>
  some ((),(r18.2.1,(r15,(x.2.1,(r18.2.2,x.2.2.2))),()))) (agree (Option.bind (qd ns14 r8.2.2) fun r19 =>
  some ((),(r19.2.1,(r15,(x.2.1,(r19.2.2,x.2.2.2))),()))) (Option.bind (qd ns14 r8.2.2) fun r20 =>
  some ((),(r20.2.1,(r15,(x.2.1,(r20.2.2,x.2.2.2))),())))))) (agree (agree (Option.bind (qf x.1) fun r21 =>
  agree (Option.bind (qd ns14 r8.2.2) fun r22 =>
  some ((),(r22.2.1,(r21,(x.2.1,(r22.2.2,x.2.2.2))),()))) (Option.bind (qd ns14 r8.2.2) fun r23 =>
  some ((),(r23.2.1,(r21,(x.2.1,(r23.2.2,x.2.2.2))),())))) (Option.bind (qf x.1) fun r24 =>
  Option.bind (qd ns14 r8.2.2) fun r25 =>
  some ((),(r25.2.1,(r24,(x.2.1,(r25.2.2,x.2.2.2))),())))) (agree (Option.bind (qf x.1) fun r26 =>
  agree (Option.bind (qd ns14 r8.2.2) fun r27 =>
  some ((),(r27.2.1,(r26,(x.2.1,(r27.2.2,x.2.2.2))),()))) (Option.bind (qd ns14 r8.2.2) fun r28 =>
  some ((),(r28.2.1,(r26,(x.2.1,(r28.2.2,x.2.2.2))),())))) (Option.bind (qf x.1) fun r29 =>
  Option.bind (qd ns14 r8.2.2) fun r30 =>
  some ((),(r30.2.1,(r29,(x.2.1,(r30.2.2,x.2.2.2))),())))))) fun x31 =>
  some ((x31.2.2.1.1,(x31.2.2.1.2.1,(x31.2.2.1.2.2.1,x31.2.2.1.2.2.2))),((0:Int),())))))))
  else Option.bind (req (inb node r8.1.length) (Option.bind (α:=Zv51 ⊕ Zv47) (iterW (qeo r8 node) (((0:Int),()),())) (Sum.elim (fun x33 =>
  some (((-1:Int),()),())) some))) fun x34 =>
  req (decide (0≤x34.1.1)&&(decide (x34.1.1≤(w64 (x34.1.1+1)))&&decide ((w64 (x34.1.1+1))≤((r8.2.2.length:Nat):Int)))) (Option.bind (some (List.map (fun (x:Zv31×Option (List Nat))=>((x.1.1,(x.1.2.1,(x.2.getD [],()))),(none:Option (List Nat)))) r8.2.1)) fun ns35 =>
  Option.bind (agree (Option.bind (qf x.1) fun r36 =>
  agree (agree (Option.bind (qd ns35 (r8.2.2.take (x34.1.1).toNat++r8.2.2.drop ((w64 (x34.1.1+1))).toNat)) fun r37 =>
  some ((),(r37.2.1,(r36,(x.2.1,(r37.2.2,x.2.2.2))),()))) (Option.bind (qd ns35 (r8.2.2.take (x34.1.1).toNat++r8.2.2.drop ((w64 (x34.1.1+1))).toNat)) fun r38 =>
  some ((),(r38.2.1,(r36,(x.2.1,(r38.2.2,x.2.2.2))),())))) (agree (Option.bind (qd ns35 (r8.2.2.take (x34.1.1).toNat++r8.2.2.drop ((w64 (x34.1.1+1))).toNat)) fun r39 =>
  some ((),(r39.2.1,(r36,(x.2.1,(r39.2.2,x.2.2.2))),()))) (agree (Option.bind (qd ns35 (r8.2.2.take (x34.1.1).toNat++r8.2.2.drop ((w64 (x34.1.1+1))).toNat)) fun r40 =>
  some ((),(r40.2.1,(r36,(x.2.1,(r40.2.2,x.2.2.2))),()))) (Option.bind (qd ns35 (r8.2.2.take (x34.1.1).toNat++r8.2.2.drop ((w64 (x34.1.1+1))).toNat)) fun r41 =>
  some ((),(r41.2.1,(r36,(x.2.1,(r41.2.2,x.2.2.2))),())))))) (agree (agree (Option.bind (qf x.1) fun r42 =>
  agree (Option.bind (qd ns35 (r8.2.2.take (x34.1.1).toNat++r8.2.2.drop ((w64 (x34.1.1+1))).toNat)) fun r43 =>
  some ((),(r43.2.1,(r42,(x.2.1,(r43.2.2,x.2.2.2))),()))) (Option.bind (qd ns35 (r8.2.2.take (x34.1.1).toNat++r8.2.2.drop ((w64 (x34.1.1+1))).toNat)) fun r44 =>
  some ((),(r44.2.1,(r42,(x.2.1,(r44.2.2,x.2.2.2))),())))) (Option.bind (qf x.1) fun r45 =>
  Option.bind (qd ns35 (r8.2.2.take (x34.1.1).toNat++r8.2.2.drop ((w64 (x34.1.1+1))).toNat)) fun r46 =>
  some ((),(r46.2.1,(r45,(x.2.1,(r46.2.2,x.2.2.2))),())))) (agree (Option.bind (qf x.1) fun r47 =>
  agree (Option.bind (qd ns35 (r8.2.2.take (x34.1.1).toNat++r8.2.2.drop ((w64 (x34.1.1+1))).toNat)) fun r48 =>
  some ((),(r48.2.1,(r47,(x.2.1,(r48.2.2,x.2.2.2))),()))) (Option.bind (qd ns35 (r8.2.2.take (x34.1.1).toNat++r8.2.2.drop ((w64 (x34.1.1+1))).toNat)) fun r49 =>
  some ((),(r49.2.1,(r47,(x.2.1,(r49.2.2,x.2.2.2))),())))) (Option.bind (qf x.1) fun r50 =>
  Option.bind (qd ns35 (r8.2.2.take (x34.1.1).toNat++r8.2.2.drop ((w64 (x34.1.1+1))).toNat)) fun r51 =>
  some ((),(r51.2.1,(r50,(x.2.1,(r51.2.2,x.2.2.2))),())))))) fun x52 =>
  some ((x52.2.2.1.1,(x52.2.2.1.2.1,(x52.2.2.1.2.2.1,x52.2.2.1.2.2.2))),((0:Int),()))))
def qbj (r:ByteArray×Int×Int×Zv13×Zv53×Bool×Bool×Zv33×Int×Int×Int×Unit) (x:Zv36×ByteArray×Zv20×Int×Unit):Option Zv5 :=
  Option.bind (qbF r x) fun r2 =>
  bif (r2 !=0) then some ((([]:List Zv42),((ByteArray.mk #[]),(([]:List Zv28),((0:Int),())))),(r2,()))
  else some (x,((0:Int),()))
def qbO (x5:Zv52×((List (Zv31×(Option (List Nat))))×((List Nat)×Unit)×Unit)) (r4:(List Nat)×(List (Zv31×(Option (List Nat))))×(List Nat)) (d6:Int×Zv46×ByteArray×Unit) (x7:Zv52×(Unit)):Option (Zv47 ⊕ (Zv51 ⊕ Zv47)) :=
  bif (decide (x7.1.1<(((kdP x5.2.1 (((0:Int),((0:Int),((0:Int),()))),(ByteArray.empty,())) (getD' r4.1 ((d6.1).toNat) (0:Nat))).length:Nat):Int))) then(req (inb x7.1.1 (kdP x5.2.1 (((0:Int),((0:Int),((0:Int),()))),(ByteArray.empty,())) (getD' r4.1 ((d6.1).toNat) (0:Nat))).length) (bif (Nat.beq (getD' r4.1 ((x5.1.1).toNat) (0:Nat)) (getD' (kdP x5.2.1 (((0:Int),((0:Int),((0:Int),()))),(ByteArray.empty,())) (getD' r4.1 ((d6.1).toNat) (0:Nat))) ((x7.1.1).toNat) 0)) then some (Sum.inr (Sum.inr ((x7.1.1,()),())))
  else some (Sum.inl (((w64 (x7.1.1+1)),()),()))))
  else some (Sum.inr (Sum.inl ((),())))
def qbZ (x5:Zv52×((List (Zv31×(Option (List Nat))))×((List Nat)×Unit)×Unit)) (r4:(List Nat)×(List (Zv31×(Option (List Nat))))×(List Nat)) (x15:Zv52×(Unit)):Option (Zv47 ⊕ (Zv51 ⊕ Zv47)) :=
  bif (decide (x15.1.1<((x5.2.2.1.1.length:Nat):Int))) then(req (inb x15.1.1 x5.2.2.1.1.length) (bif (Nat.beq (getD' r4.1 ((x5.1.1).toNat) (0:Nat)) (getD' x5.2.2.1.1 ((x15.1.1).toNat) (0:Nat))) then some (Sum.inr (Sum.inr ((x15.1.1,()),())))
  else some (Sum.inl (((w64 (x15.1.1+1)),()),()))))
  else some (Sum.inr (Sum.inl ((),())))
def qC (x:Zv36×ByteArray×Zv20×Int×Unit) (r4:(List Nat)×(List (Zv31×(Option (List Nat))))×(List Nat)) (x5:Zv52×((List (Zv31×(Option (List Nat))))×((List Nat)×Unit)×Unit)):Option ((Zv52×((List (Zv31×(Option (List Nat))))×((List Nat)×Unit)×Unit)) ⊕ ((Unit)×((List (Zv31×(Option (List Nat))))×((List Nat)×Unit)×Unit))) :=
  bif (decide (x5.1.1≥0)) then(Option.bind (at? x.2.2.1 x5.1.1) fun d6 =>
  bif (decide (d6.1≥0)) then(req (inb d6.1 r4.1.length) (req (Nat.blt 0 (getD' r4.1 ((d6.1).toNat) (0:Nat))) (Option.bind (req (inb x5.1.1 r4.1.length) (Option.bind (α:=Zv51 ⊕ Zv47) (iterW (qbO x5 r4 d6) (((0:Int),()),())) (Sum.elim (fun x8 =>
  some (((-1:Int),()),())) some))) fun x9 =>
  Option.bind (req (inb x5.1.1 r4.1.length) (agree (req (decide (0≤x9.1.1)&&(decide (x9.1.1≤(w64 (x9.1.1+1)))&&decide ((w64 (x9.1.1+1))≤(((kdP x5.2.1 (((0:Int),((0:Int),((0:Int),()))),(ByteArray.empty,())) (getD' r4.1 ((d6.1).toNat) (0:Nat))).length:Nat):Int)))) (req (decide (0≤0)&&(decide ((0:Int)≤((((kdP x5.2.1 (((0:Int),((0:Int),((0:Int),()))),(ByteArray.empty,())) (getD' r4.1 ((d6.1).toNat) (0:Nat))).take (x9.1.1).toNat++(kdP x5.2.1 (((0:Int),((0:Int),((0:Int),()))),(ByteArray.empty,())) (getD' r4.1 ((d6.1).toNat) (0:Nat))).drop ((w64 (x9.1.1+1))).toNat).length:Nat):Int))&&(Nat.blt 0 ([(getD' r4.1 ((x5.1.1).toNat) (0:Nat))]).length&&room (((kdP x5.2.1 (((0:Int),((0:Int),((0:Int),()))),(ByteArray.empty,())) (getD' r4.1 ((d6.1).toNat) (0:Nat))).take (x9.1.1).toNat++(kdP x5.2.1 (((0:Int),((0:Int),((0:Int),()))),(ByteArray.empty,())) (getD' r4.1 ((d6.1).toNat) (0:Nat))).drop ((w64 (x9.1.1+1))).toNat).length+([(getD' r4.1 ((x5.1.1).toNat) (0:Nat))]).length) 8))) (req (Nat.beq ((getD' r4.1 ((d6.1).toNat) (0:Nat))-1) ((getD' r4.1 ((d6.1).toNat) (0:Nat))-1)) (Option.bind (some (putP x5.2.1 (((0:Int),((0:Int),((0:Int),()))),(ByteArray.empty,())) (getD' r4.1 ((d6.1).toNat) (0:Nat)) (((kdP x5.2.1 (((0:Int),((0:Int),((0:Int),()))),(ByteArray.empty,())) (getD' r4.1 ((d6.1).toNat) (0:Nat))).take (x9.1.1).toNat++(kdP x5.2.1 (((0:Int),((0:Int),((0:Int),()))),(ByteArray.empty,())) (getD' r4.1 ((d6.1).toNat) (0:Nat))).drop ((w64 (x9.1.1+1))).toNat).take 0++([(getD' r4.1 ((x5.1.1).toNat) (0:Nat))]++((kdP x5.2.1 (((0:Int),((0:Int),((0:Int),()))),(ByteArray.empty,())) (getD' r4.1 ((d6.1).toNat) (0:Nat))).take (x9.1.1).toNat++(kdP x5.2.1 (((0:Int),((0:Int),((0:Int),()))),(ByteArray.empty,())) (getD' r4.1 ((d6.1).toNat) (0:Nat))).drop ((w64 (x9.1.1+1))).toNat).drop 0)))) fun ns10 =>
  some ((),(ns10,())))))) (agree (req (decide (0≤x9.1.1)&&(decide (x9.1.1≤(w64 (x9.1.1+1)))&&decide ((w64 (x9.1.1+1))≤(((kdP x5.2.1 (((0:Int),((0:Int),((0:Int),()))),(ByteArray.empty,())) (getD' r4.1 ((d6.1).toNat) (0:Nat))).length:Nat):Int)))) (req (decide (0≤0)&&(decide ((0:Int)≤((((kdP x5.2.1 (((0:Int),((0:Int),((0:Int),()))),(ByteArray.empty,())) (getD' r4.1 ((d6.1).toNat) (0:Nat))).take (x9.1.1).toNat++(kdP x5.2.1 (((0:Int),((0:Int),((0:Int),()))),(ByteArray.empty,())) (getD' r4.1 ((d6.1).toNat) (0:Nat))).drop ((w64 (x9.1.1+1))).toNat).length:Nat):Int))&&(Nat.blt 0 ([(getD' r4.1 ((x5.1.1).toNat) (0:Nat))]).length&&room (((kdP x5.2.1 (((0:Int),((0:Int),((0:Int),()))),(ByteArray.empty,())) (getD' r4.1 ((d6.1).toNat) (0:Nat))).take (x9.1.1).toNat++(kdP x5.2.1 (((0:Int),((0:Int),((0:Int),()))),(ByteArray.empty,())) (getD' r4.1 ((d6.1).toNat) (0:Nat))).drop ((w64 (x9.1.1+1))).toNat).length+([(getD' r4.1 ((x5.1.1).toNat) (0:Nat))]).length) 8))) (req (Nat.beq ((getD' r4.1 ((d6.1).toNat) (0:Nat))-1) ((getD' r4.1 ((d6.1).toNat) (0:Nat))-1)) (Option.bind (some (putP x5.2.1 (((0:Int),((0:Int),((0:Int),()))),(ByteArray.empty,())) (getD' r4.1 ((d6.1).toNat) (0:Nat)) (((kdP x5.2.1 (((0:Int),((0:Int),((0:Int),()))),(ByteArray.empty,())) (getD' r4.1 ((d6.1).toNat) (0:Nat))).take (x9.1.1).toNat++(kdP x5.2.1 (((0:Int),((0:Int),((0:Int),()))),(ByteArray.empty,())) (getD' r4.1 ((d6.1).toNat) (0:Nat))).drop ((w64 (x9.1.1+1))).toNat).take 0++([(getD' r4.1 ((x5.1.1).toNat) (0:Nat))]++((kdP x5.2.1 (((0:Int),((0:Int),((0:Int),()))),(ByteArray.empty,())) (getD' r4.1 ((d6.1).toNat) (0:Nat))).take (x9.1.1).toNat++(kdP x5.2.1 (((0:Int),((0:Int),((0:Int),()))),(ByteArray.empty,())) (getD' r4.1 ((d6.1).toNat) (0:Nat))).drop ((w64 (x9.1.1+1))).toNat).drop 0)))) fun ns11 =>
  some ((),(ns11,())))))) (req (decide (0≤x9.1.1)&&(decide (x9.1.1≤(w64 (x9.1.1+1)))&&decide ((w64 (x9.1.1+1))≤(((kdP x5.2.1 (((0:Int),((0:Int),((0:Int),()))),(ByteArray.empty,())) (getD' r4.1 ((d6.1).toNat) (0:Nat))).length:Nat):Int)))) (req (decide (0≤0)&&(decide ((0:Int)≤((((kdP x5.2.1 (((0:Int),((0:Int),((0:Int),()))),(ByteArray.empty,())) (getD' r4.1 ((d6.1).toNat) (0:Nat))).take (x9.1.1).toNat++(kdP x5.2.1 (((0:Int),((0:Int),((0:Int),()))),(ByteArray.empty,())) (getD' r4.1 ((d6.1).toNat) (0:Nat))).drop ((w64 (x9.1.1+1))).toNat).length:Nat):Int))&&(Nat.blt 0 ([(getD' r4.1 ((x5.1.1).toNat) (0:Nat))]).length&&room (((kdP x5.2.1 (((0:Int),((0:Int),((0:Int),()))),(ByteArray.empty,())) (getD' r4.1 ((d6.1).toNat) (0:Nat))).take (x9.1.1).toNat++(kdP x5.2.1 (((0:Int),((0:Int),((0:Int),()))),(ByteArray.empty,())) (getD' r4.1 ((d6.1).toNat) (0:Nat))).drop ((w64 (x9.1.1+1))).toNat).length+([(getD' r4.1 ((x5.1.1).toNat) (0:Nat))]).length) 8))) (req (Nat.beq ((getD' r4.1 ((d6.1).toNat) (0:Nat))-1) ((getD' r4.1 ((d6.1).toNat) (0:Nat))-1)) (Option.bind (some (putP x5.2.1 (((0:Int),((0:Int),((0:Int),()))),(ByteArray.empty,())) (getD' r4.1 ((d6.1).toNat) (0:Nat)) (((kdP x5.2.1 (((0:Int),((0:Int),((0:Int),()))),(ByteArray.empty,())) (getD' r4.1 ((d6.1).toNat) (0:Nat))).take (x9.1.1).toNat++(kdP x5.2.1 (((0:Int),((0:Int),((0:Int),()))),(ByteArray.empty,())) (getD' r4.1 ((d6.1).toNat) (0:Nat))).drop ((w64 (x9.1.1+1))).toNat).take 0++([(getD' r4.1 ((x5.1.1).toNat) (0:Nat))]++((kdP x5.2.1 (((0:Int),((0:Int),((0:Int),()))),(ByteArray.empty,())) (getD' r4.1 ((d6.1).toNat) (0:Nat))).take (x9.1.1).toNat++(kdP x5.2.1 (((0:Int),((0:Int),((0:Int),()))),(ByteArray.empty,())) (getD' r4.1 ((d6.1).toNat) (0:Nat))).drop ((w64 (x9.1.1+1))).toNat).drop 0)))) fun ns12 =>
  some ((),(ns12,()))))))))) fun x13 =>
  Option.bind (at? x.2.2.1 x5.1.1) fun d14 =>
  some (Sum.inl ((d14.1,()),(x13.2.1,(x5.2.2.1.1,()),()))))))
  else Option.bind (req (inb x5.1.1 r4.1.length) (Option.bind (α:=Zv51 ⊕ Zv47) (iterW (qbZ x5 r4) (((0:Int),()),())) (Sum.elim (fun x16 =>
  some (((-1:Int),()),())) some))) fun x17 =>
  Option.bind (req (inb x5.1.1 r4.1.length) (agree (req (decide (0≤x17.1.1)&&(decide (x17.1.1≤(w64 (x17.1.1+1)))&&decide ((w64 (x17.1.1+1))≤((x5.2.2.1.1.length:Nat):Int)))) (req (decide (0≤0)&&(decide ((0:Int)≤(((x5.2.2.1.1.take (x17.1.1).toNat++x5.2.2.1.1.drop ((w64 (x17.1.1+1))).toNat).length:Nat):Int))&&(Nat.blt 0 ([(getD' r4.1 ((x5.1.1).toNat) (0:Nat))]).length&&room ((x5.2.2.1.1.take (x17.1.1).toNat++x5.2.2.1.1.drop ((w64 (x17.1.1+1))).toNat).length+([(getD' r4.1 ((x5.1.1).toNat) (0:Nat))]).length) 8))) (some ((),((((x5.2.2.1.1.take (x17.1.1).toNat++x5.2.2.1.1.drop ((w64 (x17.1.1+1))).toNat).take 0++([(getD' r4.1 ((x5.1.1).toNat) (0:Nat))]++(x5.2.2.1.1.take (x17.1.1).toNat++x5.2.2.1.1.drop ((w64 (x17.1.1+1))).toNat).drop 0)),()),()))))) (agree (req (decide (0≤x17.1.1)&&(decide (x17.1.1≤(w64 (x17.1.1+1)))&&decide ((w64 (x17.1.1+1))≤((x5.2.2.1.1.length:Nat):Int)))) (req (decide (0≤0)&&(decide ((0:Int)≤(((x5.2.2.1.1.take (x17.1.1).toNat++x5.2.2.1.1.drop ((w64 (x17.1.1+1))).toNat).length:Nat):Int))&&(Nat.blt 0 ([(getD' r4.1 ((x5.1.1).toNat) (0:Nat))]).length&&room ((x5.2.2.1.1.take (x17.1.1).toNat++x5.2.2.1.1.drop ((w64 (x17.1.1+1))).toNat).length+([(getD' r4.1 ((x5.1.1).toNat) (0:Nat))]).length) 8))) (some ((),((((x5.2.2.1.1.take (x17.1.1).toNat++x5.2.2.1.1.drop ((w64 (x17.1.1+1))).toNat).take 0++([(getD' r4.1 ((x5.1.1).toNat) (0:Nat))]++(x5.2.2.1.1.take (x17.1.1).toNat++x5.2.2.1.1.drop ((w64 (x17.1.1+1))).toNat).drop 0)),()),()))))) (req (decide (0≤x17.1.1)&&(decide (x17.1.1≤(w64 (x17.1.1+1)))&&decide ((w64 (x17.1.1+1))≤((x5.2.2.1.1.length:Nat):Int)))) (req (decide (0≤0)&&(decide ((0:Int)≤(((x5.2.2.1.1.take (x17.1.1).toNat++x5.2.2.1.1.drop ((w64 (x17.1.1+1))).toNat).length:Nat):Int))&&(Nat.blt 0 ([(getD' r4.1 ((x5.1.1).toNat) (0:Nat))]).length&&room ((x5.2.2.1.1.take (x17.1.1).toNat++x5.2.2.1.1.drop ((w64 (x17.1.1+1))).toNat).length+([(getD' r4.1 ((x5.1.1).toNat) (0:Nat))]).length) 8))) (some ((),((((x5.2.2.1.1.take (x17.1.1).toNat++x5.2.2.1.1.drop ((w64 (x17.1.1+1))).toNat).take 0++([(getD' r4.1 ((x5.1.1).toNat) (0:Nat))]++(x5.2.2.1.1.take (x17.1.1).toNat++x5.2.2.1.1.drop ((w64 (x17.1.1+1))).toNat).drop 0)),()),())))))))) fun x18 =>
  Option.bind (at? x.2.2.1 x5.1.1) fun d19 =>
  some (Sum.inl ((d19.1,()),(x5.2.1,(x18.2.1.1,()),()))))
  else some (Sum.inr ((),(x5.2.1,(x5.2.2.1.1,()),())))
def qaC (r:ByteArray×Int×Int×Zv13×Zv53×Bool×Bool×Zv33×Int×Int×Int×Unit) (x:Zv36×ByteArray×Zv20×Int×Unit) (node:Int):Option Zv5 :=
  Option.bind (qX r x node) fun r3 =>
  bif (r3 !=0) then some ((([]:List Zv42),((ByteArray.mk #[]),(([]:List Zv28),((0:Int),())))),(r3,()))
  else req (decide (0≤((x.2.2.1.length:Nat):Int))&&(((x.2.2.1.length:Nat):Int)==((x.2.2.1.length:Nat):Int)&&room (((x.2.2.1.length:Nat):Int)).toNat 8)) (Option.bind (qcG (List.replicate (((x.2.2.1.length:Nat):Int)).toNat (0:Nat)) ([]:List (Zv31×(Option (List Nat)))) x (-1:Int)) fun r4 =>
  Option.bind (iterW (qC x r4) ((node,()),(r4.2.1,(r4.2.2,()),()))) fun x20 =>
  Option.bind (agree (Option.bind (some (List.map (fun (x:Zv31×Option (List Nat))=>((x.1.1,(x.1.2.1,(x.2.getD [],()))),(none:Option (List Nat)))) x20.2.1)) fun ns21 =>
  Option.bind (agree (Option.bind (qf x.1) fun r22 =>
  agree (agree (Option.bind (qd ns21 x20.2.2.1.1) fun r23 =>
  some ((),(r23.2.1,(r22,(x.2.1,(r23.2.2,x.2.2.2))),()))) (Option.bind (qd ns21 x20.2.2.1.1) fun r24 =>
  some ((),(r24.2.1,(r22,(x.2.1,(r24.2.2,x.2.2.2))),())))) (agree (Option.bind (qd ns21 x20.2.2.1.1) fun r25 =>
  some ((),(r25.2.1,(r22,(x.2.1,(r25.2.2,x.2.2.2))),()))) (agree (Option.bind (qd ns21 x20.2.2.1.1) fun r26 =>
  some ((),(r26.2.1,(r22,(x.2.1,(r26.2.2,x.2.2.2))),()))) (Option.bind (qd ns21 x20.2.2.1.1) fun r27 =>
  some ((),(r27.2.1,(r22,(x.2.1,(r27.2.2,x.2.2.2))),())))))) (agree (agree (Option.bind (qf x.1) fun r28 =>
  agree (Option.bind (qd ns21 x20.2.2.1.1) fun r29 =>
  some ((),(r29.2.1,(r28,(x.2.1,(r29.2.2,x.2.2.2))),()))) (Option.bind (qd ns21 x20.2.2.1.1) fun r30 =>
  some ((),(r30.2.1,(r28,(x.2.1,(r30.2.2,x.2.2.2))),())))) (Option.bind (qf x.1) fun r31 =>
  Option.bind (qd ns21 x20.2.2.1.1) fun r32 =>
  some ((),(r32.2.1,(r31,(x.2.1,(r32.2.2,x.2.2.2))),())))) (agree (Option.bind (qf x.1) fun r33 =>
  agree (Option.bind (qd ns21 x20.2.2.1.1) fun r34 =>
  some ((),(r34.2.1,(r33,(x.2.1,(r34.2.2,x.2.2.2))),()))) (Option.bind (qd ns21 x20.2.2.1.1) fun r35 =>
  some ((),(r35.2.1,(r33,(x.2.1,(r35.2.2,x.2.2.2))),())))) (Option.bind (qf x.1) fun r36 =>
  Option.bind (qd ns21 x20.2.2.1.1) fun r37 =>
  some ((),(r37.2.1,(r36,(x.2.1,(r37.2.2,x.2.2.2))),())))))) fun x38 =>
  Option.bind (qbj r (x38.2.2.1.1,(x38.2.2.1.2.1,(x38.2.2.1.2.2.1,x38.2.2.1.2.2.2)))) fun r39 =>
  some ((r39.2.1,()),(r39.1,x38.2.1,()))) (Option.bind (some (List.map (fun (x:Zv31×Option (List Nat))=>((x.1.1,(x.1.2.1,(x.2.getD [],()))),(none:Option (List Nat)))) x20.2.1)) fun ns40 =>
  Option.bind (agree (Option.bind (qf x.1) fun r41 =>
  agree (agree (Option.bind (qd ns40 x20.2.2.1.1) fun r42 =>
  some ((),(r42.2.1,(r41,(x.2.1,(r42.2.2,x.2.2.2))),()))) (Option.bind (qd ns40 x20.2.2.1.1) fun r43 =>
  some ((),(r43.2.1,(r41,(x.2.1,(r43.2.2,x.2.2.2))),())))) (agree (Option.bind (qd ns40 x20.2.2.1.1) fun r44 =>
  some ((),(r44.2.1,(r41,(x.2.1,(r44.2.2,x.2.2.2))),()))) (agree (Option.bind (qd ns40 x20.2.2.1.1) fun r45 =>
  some ((),(r45.2.1,(r41,(x.2.1,(r45.2.2,x.2.2.2))),()))) (Option.bind (qd ns40 x20.2.2.1.1) fun r46 =>
  some ((),(r46.2.1,(r41,(x.2.1,(r46.2.2,x.2.2.2))),())))))) (agree (agree (Option.bind (qf x.1) fun r47 =>
  agree (Option.bind (qd ns40 x20.2.2.1.1) fun r48 =>
  some ((),(r48.2.1,(r47,(x.2.1,(r48.2.2,x.2.2.2))),()))) (Option.bind (qd ns40 x20.2.2.1.1) fun r49 =>
  some ((),(r49.2.1,(r47,(x.2.1,(r49.2.2,x.2.2.2))),())))) (Option.bind (qf x.1) fun r50 =>
  Option.bind (qd ns40 x20.2.2.1.1) fun r51 =>
  some ((),(r51.2.1,(r50,(x.2.1,(r51.2.2,x.2.2.2))),())))) (agree (Option.bind (qf x.1) fun r52 =>
  agree (Option.bind (qd ns40 x20.2.2.1.1) fun r53 =>
  some ((),(r53.2.1,(r52,(x.2.1,(r53.2.2,x.2.2.2))),()))) (Option.bind (qd ns40 x20.2.2.1.1) fun r54 =>
  some ((),(r54.2.1,(r52,(x.2.1,(r54.2.2,x.2.2.2))),())))) (Option.bind (qf x.1) fun r55 =>
  Option.bind (qd ns40 x20.2.2.1.1) fun r56 =>
  some ((),(r56.2.1,(r55,(x.2.1,(r56.2.2,x.2.2.2))),())))))) fun x57 =>
  Option.bind (qbj r (x57.2.2.1.1,(x57.2.2.1.2.1,(x57.2.2.1.2.2.1,x57.2.2.1.2.2.2)))) fun r58 =>
  some ((r58.2.1,()),(r58.1,x57.2.1,())))) fun x59 =>
  some (x59.2.1,(x59.1.1,())))
def qff (l:List Zv28) (x1:Zv25×(Unit)):Option (Zv18 ⊕ Zv21) :=
  bif (decide (x1.1.2.1<((l.length:Nat):Int))) then(Option.bind (qkV l x1.1.2.1) fun r2 =>
  req (room (x1.1.1.length+([r2.1]).length) 24) (some (Sum.inl (((x1.1.1++[r2.1]),(w64 (x1.1.2.1+1)),()),()))))
  else some (Sum.inr ((x1.1.1,()),()))
def qc2 (l:List Zv28):Option Zv34 :=
  Option.bind (iterW (qff l) ((([]:List Zv39),(0:Int),()),())) fun x3 =>
  some x3.1.1
def qcv (l:List Zv39) (w:List Zv46) (x1:Zv52×(Unit)):Option (Zv47 ⊕ (Zv51 ⊕ Bool)) :=
  bif (decide (x1.1.1<((l.length:Nat):Int))) then(Option.bind (at? l x1.1.1) fun d2 =>
  Option.bind (qav d2 w) fun r3 =>
  bif r3 then some (Sum.inr (Sum.inr true))
  else some (Sum.inl (((w64 (x1.1.1+1)),()),())))
  else some (Sum.inr (Sum.inl ((),())))
def qe3 (l:List Zv39) (w:List Zv46):Option (Bool) :=
  Option.bind (α:=Zv51 ⊕ Bool) (iterW (qcv l w) (((0:Int),()),())) (Sum.elim (fun x4 =>
  some false) some)
def qap (r19:List Zv39) (r18:Zv39×Bool×Unit) (x20:Zv25×(Unit)):Option (Zv18 ⊕ Zv21) :=
  bif (decide (x20.1.2.1<((r19.length:Nat):Int))) then(req (inb x20.1.2.1 r19.length) (req (imp (!(decide ((((getD' r19 ((x20.1.2.1).toNat) []).length:Nat):Int)<((r18.1.length:Nat):Int)))) (qm (0:Int) ((r18.1.length:Nat):Int) (getD' r19 ((x20.1.2.1).toNat) []).length)) (Option.bind (gopt (!(decide ((((getD' r19 ((x20.1.2.1).toNat) []).length:Nat):Int)<((r18.1.length:Nat):Int)))) false (qav (((getD' r19 ((x20.1.2.1).toNat) []).take (((r18.1.length:Nat):Int)).toNat).drop 0) r18.1)) fun r21 =>
  Option.bind (bif ((decide ((((getD' r19 ((x20.1.2.1).toNat) []).length:Nat):Int)<((r18.1.length:Nat):Int)))||(!r21)) then req (room (x20.1.1.length+([(getD' r19 ((x20.1.2.1).toNat) [])]).length) 24) (some (((x20.1.1++[(getD' r19 ((x20.1.2.1).toNat) [])]),()),()))
  else some ((x20.1.1,()),())) fun x22 =>
  some (Sum.inl ((x22.1.1,(w64 (x20.1.2.1+1)),()),())))))
  else some (Sum.inr ((x20.1.1,()),()))
def qan (r24:List Zv39) (x23:(Zv34×Unit)×(Unit)) (x25:Zv52×(Unit)):Option (Zv47 ⊕ (Zv51 ⊕ Bool)) :=
  bif (decide (x25.1.1<((r24.length:Nat):Int))) then(req (inb x25.1.1 r24.length) (req (inb x25.1.1 x23.1.1.length) (Option.bind (qav (getD' r24 ((x25.1.1).toNat) []) (getD' x23.1.1 ((x25.1.1).toNat) [])) fun r26 =>
  bif (!r26) then some (Sum.inr (Sum.inr false))
  else some (Sum.inl (((w64 (x25.1.1+1)),()),())))))
  else some (Sum.inr (Sum.inl ((),())))
def qak (r18:Zv39×Bool×Unit) (r28:List Zv39) (x30:Zv52×(Unit)):Option (Zv47 ⊕ (Zv51 ⊕ Bool)) :=
  bif (decide (x30.1.1<((r18.1.length:Nat):Int))) then(req (inb x30.1.1 r28.length) (req (qm (0:Int) (w64 (x30.1.1+1)) r18.1.length) (Option.bind (qav (getD' r28 ((x30.1.1).toNat) []) ((r18.1.take ((w64 (x30.1.1+1))).toNat).drop 0)) fun r31 =>
  bif (!r31) then some (Sum.inr (Sum.inr false))
  else some (Sum.inl (((w64 (x30.1.1+1)),()),())))))
  else some (Sum.inr (Sum.inl ((),())))
def qao (r33:List Zv39) (r28:List Zv39) (x34:Zv52×(Unit)):Option (Zv47 ⊕ (Zv51 ⊕ Bool)) :=
  bif (decide (x34.1.1<((r33.length:Nat):Int))) then(req (inb x34.1.1 r33.length) (Option.bind (qe3 r28 (getD' r33 ((x34.1.1).toNat) [])) fun r35 =>
  bif (!r35) then some (Sum.inr (Sum.inr false))
  else some (Sum.inl (((w64 (x34.1.1+1)),()),()))))
  else some (Sum.inr (Sum.inl ((),())))
def qcN (r:ByteArray×Int×Int×Zv13×Zv53×Bool×Bool×Zv33×Int×Int×Int×Unit) (x:Zv36×ByteArray×Zv20×Int×Unit) (node:Int):Option (Bool) :=
  Option.bind (qc5) fun r12 =>
  bif (!r12) then some false
  else Option.bind (qf0 x) fun r13 =>
  bif (qgb r) then some true
  else Option.bind (qbE r r13 node) fun r14 =>
  Option.bind (qaC r r13 node) fun r15 =>
  Option.bind (qM r r13) fun r16 =>
  Option.bind (bif ((r16==0)&&((decide (node<0))||(decide (node≥((r13.2.2.1.length:Nat):Int))))) then some (((1:Int),()),())
  else some ((r16,()),())) fun x17 =>
  bif (x17.1.1 !=0) then some (((r14.2.1==x17.1.1)&&(r15.2.1==x17.1.1))&&((w64 (((r14.1.2.2.1.length:Nat):Int)+((r15.1.2.2.1.length:Nat):Int)))==0))
  else Option.bind (qkV r13.2.2.1 node) fun r18 =>
  Option.bind (qc2 r13.2.2.1) fun r19 =>
  Option.bind (iterW (qap r19 r18) ((([]:List Zv39),(0:Int),()),())) fun x23 =>
  Option.bind (qc2 r14.1.2.2.1) fun r24 =>
  bif ((r14.2.1 !=0)||(((r24.length:Nat):Int)!=((x23.1.1.length:Nat):Int))) then some false
  else Option.bind (α:=Zv51 ⊕ Bool) (iterW (qan r24 x23) (((0:Int),()),())) (Sum.elim (fun x27 =>
  bif (r15.2.1 !=0) then some (r15.2.1==2)
  else Option.bind (qc2 r15.1.2.2.1) fun r28 =>
  Option.bind (gopt (!(((r28.length:Nat):Int)!=((r13.2.2.1.length:Nat):Int))) (0:Int) (qM r r15.1)) fun r29 =>
  bif ((((r28.length:Nat):Int)!=((r13.2.2.1.length:Nat):Int))||(r29 !=0)) then some false
  else Option.bind (α:=Zv51 ⊕ Bool) (iterW (qak r18 r28) (((0:Int),()),())) (Sum.elim (fun x32 =>
  Option.bind (qc2 r13.2.2.1) fun r33 =>
  Option.bind (α:=Zv51 ⊕ Bool) (iterW (qao r33 r28) (((0:Int),()),())) (Sum.elim (fun x36 =>
  some true) some)) some)) some)
end
end Go.Proofs.YthidcmjpbokeeaaGreat
namespace Go.Den
open Go.Eng Go.Sort Go.Proofs Go.Shelf Go.Lib
set_option linter.unusedVariables false
set_option linter.unusedSectionVars false
set_option linter.unusedSimpArgs false
instance (τ:Ty):Inhabited (D τ):=⟨dflt τ⟩

theorem qsc {α:Type} [Inhabited α] (enc:α→List Value) (k:Nat) (hk:∀x,(enc x).length=k):∀(l:List α) (t:Nat),t<l.length*k→(l.map enc).flatten[t]?=some ((enc l[t / k]!)[t % k]!)
  | [],t,h=>by simp at h
  | x::l,t,h=>by
    rw[List.map_cons,List.flatten_cons];have k0:0<k:=by
      rcases Nat.eq_zero_or_pos k with e | e
      · subst e;simp at h
      · exact e
    by_cases ht:t<k
    · rw[List.getElem?_append_left (by rw[hk];exact ht),Nat.div_eq_of_lt ht,Nat.mod_eq_of_lt ht];simp[hk,ht]
    · rw[List.getElem?_append_right (by rw[hk];omega),hk,qsc enc k hk l (t-k) (by rw[List.length_cons,Nat.add_mul] at h;omega)];obtain⟨u,rfl⟩:∃u,t=u+k:=⟨t-k,by omega⟩;rw[Nat.add_sub_cancel,Nat.add_div_right _ k0,Nat.add_mod_right];simp
theorem flen {α:Type} (enc:α→List Value) (k:Nat) (hk:∀x,(enc x).length=k):∀l:List α,((l.map enc).flatten).length=l.length*k
  | []=>by simp
  | x::l=>by rw[List.map_cons,List.flatten_cons,List.length_append,hk,flen enc k hk l,List.length_cons,Nat.add_mul];omega
theorem qm7 {α:Type} [Inhabited α] (enc:α→List Value) (k:Nat) (hk:∀x,(enc x).length=k) (l:List α):flatK enc k l.toArray=((l.map enc).flatten).toArray:=by
  have hl:=flen enc k hk l;refine ext_get! (by simp[hl]) fun t ht=>?_
  have ht':t<l.toArray.size*k:=by simpa using ht
  rw[get_flatK _ _ _ _ ht'];have:=qsc enc k hk l t (by simpa using ht');simp[this]

variable [CT : Ctx]
theorem qhL {w:World} {S:Sp}:∀(τ:Ty) (x:D τ),τ.flat=true→Rep w S τ x [] (qaz τ x)
  | .int k,x,_=>⟨rfl,rfl⟩
  | .bool,x,_=>⟨rfl,rfl⟩
  | .str,x,_=>⟨rfl,rfl⟩
  | .nil,x,_=>⟨rfl,rfl⟩
  | .sl e,x,h=>by cases h
  | .osl i e,x,h=>by cases h
  | .obx _,x,h=>by cases h
  | .err,x,h=>by cases h
  | .bld _ _,x,h=>by cases h
  | .st f r,x,h=>by
    simp only[Ty.flat,Bool.and_eq_true] at h;exact⟨_,_,[],[],rfl,rfl,qhL f x.1 h.1,qhL r x.2 h.2⟩
theorem qpP {w:World} {S:Sp} {τ:Ty} (hf:τ.flat=true):∀ {xs:List (D τ)} {us:List Value},RepL (fun x c=>Rep w S τ x [] c) xs us→us=(xs.map (qaz τ)).flatten
  | [],us,h=>h
  | x::xs,us,⟨c,r,e,h1,h2⟩=>by
    rw[e,qiN τ hf h1,qpP hf h2];rfl
theorem qo6 {w:World} {S:Sp} {τ:Ty} (hf:τ.flat=true):∀(xs:List (D τ)),RepL (fun x c=>Rep w S τ x [] c) xs (xs.map (qaz τ)).flatten
  | []=>rfl
  | x::xs=>⟨_,_,rfl,qhL τ x hf,qo6 hf xs⟩
theorem chg_grow {w w':World} (h:Chg (CT:=⟨[],[],true,[],none⟩) [] w w'):∃q os',w'=grow (w.drewN q) os':=by
  refine⟨w'.drawn-w.drawn,w'.heap.extract w.heap.size w'.heap.size,?_⟩;obtain⟨heap,tape,drawn,os,output⟩:=w;obtain⟨heap',tape',drawn',os',output'⟩:=w';obtain⟨h1,h2,h3,h4,h5,h6⟩:=h;simp only at h1 h2 h3 h4 h5 h6;subst h1 h2 h3;have h6:=h6 trivial;have:heap'=heap++heap'.extract heap.size heap'.size:=by
    apply Array.ext_getElem?;intro j;rw[Array.getElem?_append];by_cases hj:j<heap.size
    · rw[if_pos hj];exact h5 j hj (by simp)
    · rw[if_neg hj,Array.getElem?_extract];by_cases hj2:j<heap'.size
      · rw[if_pos (by omega)];congr 1;omega
      · rw[if_neg (by omega),Array.getElem?_eq_none (by omega)]
  show World.mk heap' tape' drawn' os' output'=World.mk (heap++heap'.extract heap.size heap'.size) tape' (drawn+(drawn'-drawn)) os' output';rw[←this];congr 1;omega

section
variable {P : Program} {ρ : Ren}
theorem qrc (L:SlLaysF0.n6 P ρ) {f:FuncId} (hf6:ρ.f 6=f) {τ:Ty} {i:TypeId} (hi:ρ.t 24=i) (hflat:τ.flat=true) (hagg:τ.isAgg=true) (aE:∀w,(isAgg i).run P w = .ok true w) (zE:∀w,(Go.sizeOf i).run P w = .ok τ.size w) {g:FuncId} {res:List Ty} {φ:DL [τ,τ]→Option Int} {tot:Option (DL [τ,τ]→Int)}
    (hc:ConOK (CT:=⟨[],[],true,[],none⟩) P g ⟨[τ,τ],true,res,.int .i64,φ,tot⟩) (cf:D τ→D τ→Int) (hcf:∀x y,φ (x,y,())=some (cf x y)) (hO:SWO (ltOf cf)) (hT:∀x y,(ltOf cf) x y=false→(ltOf cf) y x=false→x=y) (eg:∀args w,(callFunc g args).run P w = .ok (.enter g args) w) :
    SrtOK P f ⟨i,τ,some g,fun xs=>xs.mergeSort fun x y=>!(ltOf cf) y x⟩:=by
  subst hf6;subst hi;refine⟨hflat,fun xs=>List.length_mergeSort xs,fun w S v M xs us hlen hown hrep=>?_⟩;simp only at hown hrep ⊢;have hsz:∀x:D τ,(qaz τ x).length=τ.size:=fun x=>Rep.length τ (qhL (w:=w) (S:=S) τ x hflat);have hus:=qpP hflat hrep;rcases hown with ⟨rfl,⟨ao,rfl⟩,h3,h4⟩ | ⟨b,cap,cur,rfl,rfl,hb,hcap,hcap2,hcs,htake⟩
  · have hxs:xs=[]:=List.length_eq_zero_iff.1 h3;subst hxs;refine(AnyF.slices_SortFunc_none L ao 0 _ w).mono ?_
    rintro e w' ⟨rfl,rfl⟩
    exact⟨rfl,Chg.refl _ _,us,.inl ⟨rfl,⟨ao,rfl⟩,rfl,h4⟩,by subst h4;simp[RepL]⟩
  · have hrow:=hb;obtain⟨fz,hb,hfz⟩:=hb;have hcmp:CmpLays P g #[] (qaz τ) τ.size cf b 0 xs.toArray.size w:=fun m os dk hdk x y=>by
      have:=ConOK.calls (CT:=⟨[],[],true,[],none⟩) hc (sortWorldK (qaz τ) τ.size w b 0 m dk os) ⟨fun _=>False,fun _=>none⟩ (#[.agg (qaz τ x).toArray,.agg (qaz τ y).toArray] ++ #[]) (x,y,()) (cf x y) (fun _ h=>h.elim) (tabR_nil (CT:=⟨[],[],true,[],none⟩) rfl rfl)
        ⟨_,_,rfl,⟨qaz τ x,qhL (CT:=⟨[],[],true,[],none⟩) τ x hflat,by simp[oneV,hagg]⟩,_,_,rfl,⟨qaz τ y,qhL (CT:=⟨[],[],true,[],none⟩) τ y hflat,by simp[oneV,hagg]⟩,rfl⟩ (hcf x y)
      refine this.mono ?_
      rintro e w' ⟨v,rfl,hch,M',cs,_,_,hr,hv⟩
      refine⟨?_,chg_grow hch⟩;rw[hv,hr.2];rfl
    have hblk:b<w.heap.size:=(Array.getElem?_eq_some_iff.1 hb).1
    have hul:us.length=xs.length*τ.size:=by rw[hus];exact flen _ _ hsz xs
    have hnc:xs.length*τ.size≤cur.size:=by rw[hcs];exact Nat.mul_le_mul_right _ hcap
    have hH:HoldsK (qaz τ) τ.size w b 0 xs.toArray:=by
      intro j hj;rw[size_flatK] at hj;rw[qm7 _ _ hsz,←hus]
      have hj':j<us.length:=by rw[hul];simpa using hj
      refine⟨?_,by rw[Nat.zero_add];exact hrow.fro (by omega)⟩;simp only[World.cell?,hb,Nat.zero_add];have:cur[j]?=us[j]?:=by
        rw[←htake,List.getElem?_take,if_pos (by rw[←hul];exact hj'),Array.getElem?_toList]
      simp[this,hj']
    have:=AnyQ.slices_SortFunc_total L τ.size aE zE (qaz τ) hsz (fun x v hv=>Rep.one τ (qhL (w:=w) (S:=S) τ x hflat) v hv) cf hO g #[] b 0 cap xs.toArray w eg hcmp hH hblk (by simpa using hlen) hT;simp only[List.size_toArray] at this;refine this.mono ?_
    rintro e w' ⟨rfl,n,os,rfl⟩
    have hl:=List.length_mergeSort (le:=fun x y=>!ltOf cf y x) xs;generalize hys:xs.mergeSort (fun x y=>!ltOf cf y x)=ys at hl ⊢;simp only[hys]
    have hyl:((ys.map (qaz τ)).flatten).length=xs.length*τ.size:=by rw[flen _ _ hsz ys,hl]
    have hheap:∀j,j<w.heap.size→(sortWorldK (qaz τ) τ.size w b 0 n ys.toArray os).heap[j]?=if b=j then some (.cells (putCells id 0 (flatK (qaz τ) τ.size ys.toArray) cur) (ρ.t 24) fz) else w.heap[j]?:=fun j hj=>by
      simp only[sortWorldK,putRowK,putRow,grow,mapBlock,Sort.ahead];rw[Array.getElem?_append_left (by simpa using hj),Array.getElem?_modify];by_cases e:b=j
      · subst e;simp[hb,onCells]
      · simp[e]
    refine⟨trivial,⟨rfl,rfl,rfl,?_,fun j hj hn=>?_,?_⟩,_,.inr ⟨b,cap,putCells id 0 (flatK (qaz τ) τ.size ys.toArray) cur,rfl,rfl,?_,hcap,hcap2,?_,rfl⟩,?_⟩
    · simp[sortWorldK,putRowK,putRow,grow,mapBlock,Sort.ahead]
    · rw[hheap j hj,if_neg (fun e=>hn (by simp[e]))]
    · simp[sortWorldK,putRowK,putRow,grow,mapBlock,Sort.ahead]
    · exact⟨fz,by rw[hheap b hblk,if_pos rfl],by simpa[putCells] using hfz⟩
    · simp[putCells,hcs]
    · have:(putCells id 0 (flatK (qaz τ) τ.size ys.toArray) cur).toList.take (xs.length*τ.size)=(ys.map (qaz τ)).flatten:=by
        apply List.ext_getElem?;intro j;rw[List.getElem?_take];by_cases hj:j<xs.length*τ.size
        · rw[if_pos hj,Array.getElem?_toList,qm7 _ _ hsz]
          have h1:j<cur.size:=by omega
          simp[putCells,Array.getElem?_mapIdx,h1,hyl,hj]
        · rw[if_neg hj,List.getElem?_eq_none (by rw[hyl];omega)]
      rw[this];exact qo6 hflat ys
end
end Go.Den
namespace Go.Den
set_option linter.unusedVariables false
set_option linter.unusedSimpArgs false

theorem qji {T α:Type} {f:T→Option (T ⊕ α)}:∀ {n m:Nat} {x:T} {r:α},iterN f n x=some r→n≤m→iterN f m x=some r
  | 0,_,_,_,h,_=>by simp[iterN] at h
  | n+1,0,_,_,_,h=>by omega
  | n+1,m+1,x,r,h,hm=>by
    simp only[iterN] at h ⊢
    match hf:f x with
    | none=>simp[hf] at h
    | some (.inr q)=>simp only[hf] at h ⊢;exact h
    | some (.inl y)=>simp only[hf] at h ⊢;exact qji h (by omega)
theorem qkO {T α:Type} {f:T→Option (T ⊕ α)} {n:Nat} {x:T} {r:α} (h:iterN f n x=some r):iterW f x=some r:=by
  have hx:∃n,(iterN f n x).isSome=true:=⟨n,by rw[h];rfl⟩;unfold iterW;rw[dif_pos hx];obtain⟨q,hq⟩:=Option.isSome_iff_exists.1 (Classical.choose_spec hx);rw[hq];rcases Nat.le_total n (Classical.choose hx) with hl | hl
  · rw[←hq,qji h hl]
  · rw[←h,qji hq hl]
theorem ql7 {T α:Type} {f:T→Option (T ⊕ α)} {x:T} {r:α} (h:iterW f x=some r):∃n,iterN f n x=some r:=by
  unfold iterW at h;split at h
  · exact⟨_,h⟩
  · cases h
theorem qo {T α:Type} {f:T→Option (T ⊕ α)} {x y:T} (h:f x=some (.inl y)):iterW f x=iterW f y:=by
  cases hy:iterW f y with
  | some r =>
    obtain⟨n,hn⟩:=ql7 hy;exact qkO (n:=n+1) (by simp[iterN,h,hn])
  | none =>
    cases hx:iterW f x with
    | none=>rfl
    | some r =>
      obtain⟨n,hn⟩:=ql7 hx
      cases n with
      | zero=>simp[iterN] at hn
      | succ n =>
        simp only[iterN,h] at hn;rw[qkO hn] at hy;cases hy
theorem qj {T α:Type} {f:T→Option (T ⊕ α)} {x:T} {r:α} (h:f x=some (.inr r)):iterW f x=some r:=qkO (n:=1) (by simp[iterN,h])
theorem qgO {T α:Type} {f:T→Option (T ⊕ α)} (I:T→Prop) (μ:T→Nat) (Q:α→Prop)
    (h:∀x,I x→(∃y,f x=some (.inl y)∧I y∧μ y<μ x)∨(∃r,f x=some (.inr r)∧Q r)):∀x,I x→∃r,iterW f x=some r∧Q r:=by
  have key:∀(n:Nat) x,μ x<n→I x→∃r,iterW f x=some r∧Q r:=by
    intro n
    induction n with
    | zero=>intro x hx;omega
    | succ n ih =>
      intro x hx hi;rcases h x hi with ⟨y,h1,h2,h3⟩ | ⟨r,h1,h2⟩
      · rw[qo h1];exact ih y (by omega) h2
      · exact⟨r,qj h1,h2⟩
  exact fun x hi=>key _ x (Nat.lt_succ_self _) hi
theorem qoQ {T α:Type} {f:T→Option (T ⊕ α)} (I:T→Prop) (μ:T→Nat) (g:T→α)
    (h:∀x,I x→(∃y,f x=some (.inl y)∧I y∧μ y<μ x∧g y=g x)∨f x=some (.inr (g x))):∀x,I x→iterW f x=some (g x):=by
  have key:∀(n:Nat) x,μ x<n→I x→iterW f x=some (g x):=by
    intro n
    induction n with
    | zero=>intro x hx;omega
    | succ n ih =>
      intro x hx hi;rcases h x hi with ⟨y,h1,h2,h3,h4⟩ | h1
      · rw[qo h1,ih y (by omega) h2,h4]
      · exact qj h1
  exact fun x hi=>key _ x (Nat.lt_succ_self _) hi
theorem qd9 {T α:Type} {f:T→Option (T ⊕ α)} (n:Nat) (st:Nat→T) (r:α) (hs:∀i,i<n→f (st i)=some (.inl (st (i+1)))) (he:f (st n)=some (.inr r)):iterW f (st 0)=some r:=by
  have key:∀k,k≤n→iterW f (st (n-k))=some r:=by
    intro k
    induction k with
    | zero=>intro _;exact qj he
    | succ k ih =>
      intro hk;have:=hs (n-(k+1)) (by omega);rw[show n-(k+1)+1=n-k by omega] at this;rw[qo this];exact ih (by omega)
  have:=key n (Nat.le_refl _)
  rwa [Nat.sub_self] at this
theorem qt {α β:Type} (xs:List α) (p:α→Bool) (f:((Int×Unit)×Unit)→Option (((Int×Unit)×Unit) ⊕ β)) (A B:β)
    (h1:∀i (hi:i<xs.length),f (((i:Int),()),())=bif p xs[i] then some (.inr A) else some (.inl ((((i+1:Nat):Int),()),()))) (h2:f (((xs.length:Int),()),())=some (.inr B)) :
    iterW f ((0,()),())=some (bif xs.any p then A else B):=by
  have key:∀k i,i+k=xs.length→iterW f (((i:Int),()),())=some (bif (xs.drop i).any p then A else B):=by
    intro k
    induction k with
    | zero =>
      intro i hi
      have:i=xs.length:=by omega
      subst this;rw[qj h2];simp
    | succ k ih =>
      intro i hi
      have hl:i<xs.length:=by omega
      have hs:=h1 i hl;rw[List.drop_eq_getElem_cons hl]
      cases hp:p xs[i] with
      | true =>
        rw[hp] at hs;rw[qj hs];simp only[List.any_cons,hp,Bool.true_or,cond_true]
      | false =>
        rw[hp] at hs;rw[qo hs,ih (i+1) (by omega)];simp only[List.any_cons,hp,Bool.false_or]
  have:=key xs.length 0 (by omega);simpa using this
def scan {β:Type} (e:Nat→Option β) (B:β):Nat→Nat→β
  | _,0=>B
  | i,k+1=>match e i with
    | some b=>b
    | none=>scan e B (i+1) k
theorem qmQ {β:Type} (n:Nat) (f:((Int×Unit)×Unit)→Option (((Int×Unit)×Unit) ⊕ β)) (e:Nat→Option β) (B:β)
    (h1:∀i,i<n→f (((i:Int),()),())=match e i with
      | some b=>some (.inr b)
      | none=>some (.inl ((((i+1:Nat):Int),()),()))) (h2:f (((n:Int),()),())=some (.inr B)) :
    iterW f ((0,()),())=some (scan e B 0 n):=by
  have key:∀k i,i+k=n→iterW f (((i:Int),()),())=some (scan e B i k):=by
    intro k
    induction k with
    | zero =>
      intro i hi
      have:i=n:=by omega
      subst this;exact qj h2
    | succ k ih =>
      intro i hi;have hs:=h1 i (by omega);unfold scan
      match he:e i with
      | some b=>rw[he] at hs;exact qj hs
      | none=>rw[he] at hs;rw[qo hs];exact ih (i+1) (by omega)
  exact key n 0 (by omega)
theorem qmI {β:Type} {e e':Nat→Option β} (B:β):∀(k i:Nat),(∀j,i≤j→j<i+k→e j=e' j)→scan e B i k=scan e' B i k
  | 0,_,_=>rfl
  | k+1,i,h=>by
    unfold scan;rw[h i (Nat.le_refl _) (by omega),qmI B k (i+1) fun j h1 h2=>h j (by omega) (by omega)]
theorem qg {n:Int} (h1 : -9223372036854775808≤n) (h2:n≤9223372036854775807):w64 n=n:=by
  simp[w64,IntKind.wrap,IntKind.signed,IntKind.bits];omega
theorem qZ {n b:Nat} (h:n*b≤140737488355328):room n b=true:=Nat.ble_eq_true_of_le h
theorem beq_f {α:Type} [BEq α] [LawfulBEq α] {a b:α} (h:¬a=b):(a==b)=false:=by simpa using h
theorem bne_t {α:Type} [BEq α] [LawfulBEq α] {a b:α} (h:¬a=b):(a !=b)=true:=by simpa using h
theorem beq_t {α:Type} [BEq α] [LawfulBEq α] {a b:α} (h:a=b):(a==b)=true:=by simpa using h
theorem bne_f {α:Type} [BEq α] [LawfulBEq α] {a b:α} (h:a=b):(a !=b)=false:=by simpa using h
theorem qb {α:Type} (x:Option α):req true x=x:=rfl
theorem at?_eq {α:Type} (xs:List α) (i:Int) (h0:0≤i) (h1:i<(xs.length:Int)):at? xs i=some (xs[i.toNat]'(by omega)):=by
  simp[at?,h0,List.getElem?_eq_getElem (show i.toNat<xs.length by omega)]
theorem inb_iff {i:Int} {n:Nat}:inb i n=true↔0≤i∧i<(n:Int):=by simp[inb]
def Le {α:Type} (a b:Option α):Prop:=∀r,a=some r→b=some r
theorem Le.refl {α:Type} (a:Option α):Le a a:=fun _ h=>h
theorem Le.bind {α β:Type} {a b:Option α} {f g:α→Option β} (h:Le a b) (hf:∀x,Le (f x) (g x)):Le (Option.bind a f) (Option.bind b g):=fun r hr=>by
  obtain⟨x,h1,h2⟩:=Option.bind_eq_some_iff.1 hr;rw[h x h1];exact hf x r h2
theorem Le.elim {α β γ:Type} {f g:α→Option γ} {f' g':β→Option γ} (h:∀x,Le (f x) (g x)) (h':∀x,Le (f' x) (g' x)):∀x,Le (Sum.elim f f' x) (Sum.elim g g' x)
  | .inl x=>h x
  | .inr x=>h' x
theorem Le.cond {α:Type} {c:Bool} {a b a' b':Option α} (h:Le a a') (h':Le b b'):Le (bif c then a else b) (bif c then a' else b'):=by
  cases c
  · exact h'
  · exact h
theorem Le.req {α:Type} {c:Bool} {a b:Option α} (h:Le a b):Le (req c a) (req c b):=by
  cases c
  · exact Le.refl _
  · exact h
theorem Le.gopt {α:Type} {c:Bool} {d:α} {a b:Option α} (h:Le a b):Le (gopt c d a) (gopt c d b):=by
  cases c
  · exact Le.refl _
  · exact h
theorem Le.map {α β:Type} {f:α→β} {a b:Option α} (h:Le a b):Le (Option.map f a) (Option.map f b):=fun r hr=>by
  obtain⟨x,h1,h2⟩:=Option.map_eq_some_iff.1 hr;rw[h x h1,←h2];rfl
theorem Le.iter {T α:Type} {f g:T→Option (T ⊕ α)} (h:∀x,Le (f x) (g x)) (n:Nat) (x:T):Le (iterN f n x) (iterW g x):=by
  have key:∀n x,Le (iterN f n x) (iterN g n x):=by
    intro n
    induction n with
    | zero=>intro x;exact Le.refl _
    | succ n ih =>
      intro x r hr;simp only[iterN] at hr ⊢
      match hf:f x with
      | none=>rw[hf] at hr;cases hr
      | some (.inl y)=>rw[hf] at hr;rw[h x _ hf];exact ih y r hr
      | some (.inr q)=>rw[hf] at hr;rw[h x _ hf];exact hr
  exact fun r hr=>qkO (key n x r hr)
def Mono {T α:Type} (G:(T→Option α)→T→Option α):Prop:=∀φ ψ,(∀x,Le (φ x) (ψ x))→∀x,Le (G φ x) (G ψ x)
theorem Le.fix {T α:Type} {F G:(T→Option α)→T→Option α} (h:∀φ ψ,(∀x,Le (φ x) (ψ x))→∀x,Le (F φ x) (G ψ x)) (hG:Mono G) (n:Nat) (x:T):Le (fixN F n x) (fixW G x):=by
  have key:∀n x,Le (fixN F n x) (fixN G n x):=by
    intro n
    induction n with
    | zero=>intro x;exact Le.refl _
    | succ n ih=>intro x;exact h _ _ ih x
  have up:∀n x,Le (fixN G n x) (fixN G (n+1) x):=by
    intro n
    induction n with
    | zero=>intro x r hr;cases hr
    | succ n ih=>intro x;exact hG _ _ ih x
  have mono:∀k n x,Le (fixN G n x) (fixN G (n+k) x):=by
    intro k
    induction k with
    | zero=>intro n x;exact Le.refl _
    | succ k ih=>intro n x r hr;exact up _ x r (ih n x r hr)
  intro r hr;have h1:=key n x r hr;have hx:∃n,(fixN G n x).isSome=true:=⟨n,by rw[h1];rfl⟩;unfold fixW;rw[dif_pos hx];obtain⟨q,hq⟩:=Option.isSome_iff_exists.1 (Classical.choose_spec hx);rw[hq];rcases Nat.le_total n (Classical.choose hx) with hl | hl
  · have:=mono (Classical.choose hx-n) n x r h1;rw[show n+(Classical.choose hx-n)=Classical.choose hx by omega,hq] at this;exact this
  · have:=mono (n-Classical.choose hx) (Classical.choose hx) x q hq;rw[show Classical.choose hx+(n-Classical.choose hx)=n by omega,h1] at this;exact this.symm
end Go.Den
namespace Go
variable (P : Program)
theorem qc1 (w:World) (dT sT ty elem:TypeId) (g o dLen dCap:Nat) (a:Addr) (sLen sCap k:Nat) (cur:Array Value) (t:TypeId) (cs:List Value)
    (hu:P.underlying dT=some (.slice elem)) (hs:(P.info? elem).map (·.size)=some k)
    (hg:w.heap[g]?=some (.cells cur t (0,0))) (hn:cs.length=Nat.min sLen dLen*k)
    (hsrc:∀j v,cs[j]?=some v→w.cell? (a.add j)=some v) (hfit:o+cs.length≤cur.size) (h1:∀v∈cs,v.oneCell'=true) :
    (Builtin.copy_ #[dT,sT] ty #[.slice (some ⟨g,o,none⟩) dLen dCap,.slice (some a) sLen sCap]).run P w =
      .ok (goInt (Nat.min sLen dLen)) (w.setRow g (cur.toList.take o++cs++cur.toList.drop (o+cs.length)).toArray):=by
  have hl:=run_loadCells_list (P:=P) w a cs hsrc;have hst:=run_storeCells_at P g o t cs 0 cur w hg (by simpa using hfit) h1
  cases hq:P.info? elem with
  | none=>simp[hq] at hs
  | some i =>
    have hi:i.size=k:=by simpa[hq] using hs
    simp[Builtin.copy_,run_underlying hu,Builtin.lenOf,Builtin.firstCells,sizeOf,typeInfo,hq,hi,←hn,hl,hst]
end Go
namespace Go.Den
set_option linter.unusedVariables false
def rngB:(τ:Ty)→D τ→Bool
  | .int k,(n:Int)=>decide (k.min≤n)&&decide (n≤k.max)
  | .bool,_=>true
  | .str,(s:ByteArray)=>Nat.ble s.size maxLen
  | .sl e,(xs:List (D e))=>Nat.ble xs.length maxLen&&xs.all (rngB e)
  | .osl _ e,(xs:List (D e))=>Nat.ble xs.length maxLen&&xs.all (rngB e)
  | .obx e,x=>rngB e x
  | .onl _ _,_=>true
  | .err,_=>true
  | .bld _ _,_=>true
  | .nil,_=>true
  | .ref,_=>true
  | .st f r,x=>rngB f x.1&&rngB r x.2
theorem qh4:∀(τ:Ty) (x:D τ),rngB τ x=true→Rng τ x
  | .int k,n,h=>by
    simp only[rngB,Bool.and_eq_true,decide_eq_true_eq] at h
    cases k<;>exact h
  | .bool,_,_=>trivial
  | .str,s,h=>Nat.le_of_ble_eq_true h
  | .sl e,xs,h=>by
    simp only[rngB,Bool.and_eq_true] at h;exact⟨Nat.le_of_ble_eq_true h.1,fun x hx=>qh4 e x (List.all_eq_true.1 h.2 x hx)⟩
  | .osl _ e,xs,h=>by
    simp only[rngB,Bool.and_eq_true] at h;exact⟨Nat.le_of_ble_eq_true h.1,fun x hx=>qh4 e x (List.all_eq_true.1 h.2 x hx)⟩
  | .obx e,x,h=>qh4 e x h
  | .onl _ _,_,_=>trivial
  | .err,_,_=>trivial
  | .bld _ _,_,_=>trivial
  | .nil,_,_=>trivial
  | .ref,_,_=>trivial
  | .st f r,x,h=>by
    simp only[rngB,Bool.and_eq_true] at h;exact⟨qh4 f x.1 h.1,qh4 r x.2 h.2⟩
end Go.Den
namespace Go.Proofs.YthidcmjpbokeeaaGreat
open Go.Den
set_option linter.unusedVariables false
set_option linter.unusedSimpArgs false
set_option maxRecDepth 100000

abbrev Way:=Int×Int×Int×Int×Unit
abbrev Piece:=Int×Int×Int×(List Way)×Unit
abbrev End:=Int×Int×Int×Bool×Unit
abbrev Rules:=ByteArray×Int×Int×(List Piece)×(List Int)×Bool×Bool×(List End)×Int×Int×Int×Unit
abbrev Rules.name (r:Rules):ByteArray:=r.1
abbrev Rules.width (r:Rules):Int:=r.2.1
abbrev Rules.height (r:Rules):Int:=r.2.2.1
abbrev Rules.pieces (r:Rules):List Piece:=r.2.2.2.1
abbrev Rules.start (r:Rules):List Int:=r.2.2.2.2.1
abbrev Rules.falls (r:Rules):Bool:=r.2.2.2.2.2.1
abbrev Rules.keeps (r:Rules):Bool:=r.2.2.2.2.2.2.1
abbrev Rules.ends (r:Rules):List End:=r.2.2.2.2.2.2.2.1
abbrev Rules.blocked (r:Rules):Int:=r.2.2.2.2.2.2.2.2.1
abbrev Rules.quiet (r:Rules):Int:=r.2.2.2.2.2.2.2.2.2.1
abbrev Rules.repeats (r:Rules):Int:=r.2.2.2.2.2.2.2.2.2.2.1
abbrev tyWay:Ty := .st (.int .i64) (.st (.int .i64) (.st (.int .i64) (.st (.int .i64) .nil)))
abbrev tyPiece:Ty := .st (.int .u8) (.st (.int .i64) (.st (.int .i64) (.st (.sl tyWay) .nil)))
abbrev tyEnd:Ty := .st (.int .i64) (.st (.int .i64) (.st (.int .i64) (.st .bool .nil)))
abbrev qR:Ty := .st .str (.st (.int .i64) (.st (.int .i64) (.st (.sl tyPiece) (.st (.sl (.int .i64)) (.st .bool (.st .bool (.st (.sl tyEnd) (.st (.int .i64) (.st (.int .i64) (.st (.int .i64) .nil))))))))))

def nz (x:Int):Option Int:=if x=0 then none else some x
def qr (f:Nat→Int) (n:Nat):Int:=scan (fun i=>nz (f i)) 0 0 n
theorem qaL {f:Nat→Int} {n:Nat} (h:qr f n=0):∀i,i<n→f i=0:=by
  have key:∀(k i:Nat),scan (fun i=>nz (f i)) 0 i k=0→∀j,i≤j→j<i+k→f j=0:=by
    intro k
    induction k with
    | zero=>intro i _ j h1 h2;omega
    | succ k ih =>
      intro i hs j h1 h2;unfold scan at hs;by_cases c:f i=0
      · simp only[nz,if_pos c] at hs;rcases Nat.eq_or_lt_of_le h1 with e | e
        · rw[←e];exact c
        · exact ih (i+1) hs j e (by omega)
      · simp only[nz,if_neg c] at hs;exact absurd hs c
  exact fun i hi=>key n 0 h i (Nat.zero_le _) (by omega)
theorem qoq {f g:Nat→Int} {n:Nat} (h:∀i,i<n→f i=g i):qr f n=qr g n :=
  qmI 0 n 0 fun j _ hj=>by rw[h j (by omega)]
theorem qoP {γ:Type} (n:Nat) (f:((Int×Unit)×Unit)→Option (((Int×Unit)×Unit) ⊕ (γ ⊕ Int))) (err:Nat→Int) (u:γ) (z:Option Int)
    (h1:∀i,i<n→f (((i:Int),()),())=if err i=0 then some (.inl ((((i+1:Nat):Int),()),())) else some (.inr (.inr (err i)))) (h2:f (((n:Int),()),())=some (.inr (.inl u))) :
    Option.bind (iterW f ((0,()),())) (Sum.elim (fun _=>z) some)=if qr err n=0 then z else some (qr err n):=by
  have key:∀k i,i+k=n→Option.bind (iterW f (((i:Int),()),())) (Sum.elim (fun _=>z) some)=if scan (fun i=>nz (err i)) 0 i k=0 then z else some (scan (fun i=>nz (err i)) 0 i k):=by
    intro k
    induction k with
    | zero =>
      intro i hi
      have:i=n:=by omega
      subst this;rw[qj h2];rfl
    | succ k ih =>
      intro i hi;have hs:=h1 i (by omega);unfold scan;by_cases c:err i=0
      · rw[if_pos c] at hs;rw[qo hs,ih (i+1) (by omega)]
        have:nz (err i)=none:=by simp only[nz,if_pos c]
        rw[this]
      · rw[if_neg c] at hs;rw[qj hs]
        have:nz (err i)=some (err i):=by simp only[nz,if_neg c]
        simp only[this,if_neg c];rfl
  exact key n 0 (by omega)
def ch (s:ByteArray) (i:Nat):Nat:=((s[i]?).getD 0).toNat
theorem qrx (s:ByteArray) (i:Nat) (h:i<s.size):∃c:UInt8,strAt s (i:Int)=some c∧c.toNat=ch s i:=by
  refine⟨(s[i]?).getD 0,?_,rfl⟩
  have h0:decide ((0:Int)≤(i:Int))=true:=by simp
  have:s[i]?=some s[i]:=getElem?_pos s i h;unfold strAt;rw[h0,cond_true,Int.toNat_natCast,this];rfl
theorem ch_lt (s:ByteArray) (i:Nat):ch s i<256:=UInt8.toNat_lt _
def qdx (s:ByteArray) (i:Nat):Bool:=!(decide (65≤ch s i∧ch s i≤90)||decide (i≠0∧48≤ch s i∧ch s i≤57))
def qeH (s:ByteArray):Bool:=!((List.range s.size).any (qdx s))&&decide (1≤s.size∧s.size≤8)
theorem ql1 (s:ByteArray):(s.toList==(ByteArray.mk #[]).toList)=decide (s.size=0):=by
  rw[ByteArray.toList_eq,ByteArray.toList_eq];obtain⟨⟨l⟩⟩:=s;rw[Bool.eq_iff_iff,beq_iff_eq,decide_eq_true_eq];exact List.length_eq_zero_iff.symm
theorem qpm (s:ByteArray) (hs:s.size≤9223372036854775807):qf8 s=some (qeH s):=by
  unfold qf8 qeH
  have hL:=qt (List.range s.size) (qdx s) (qel s) (.inr false) (.inl ((),())) (fun i hi=>by
    have hi':i<s.size:=by simpa using hi
    obtain⟨c,h1,h2⟩:=qrx s i hi';have hlt:=ch_lt s i;unfold qel
    have h3:(i:Int)<(s.size:Int):=by omega
    have hg:∀b,gopt b 0 (some c)=some (bif b then c else 0):=fun b=>by cases b<;>rfl
    simp only[h3,decide_true,cond_true,h1,Option.bind_some,hg,List.getElem_range,qg (n:=(i:Int)+1) (by omega) (by omega)]
    have hb:qdx s i = !(decide (65≤c.toNat∧c.toNat≤90)||decide (i≠0∧48≤c.toNat∧c.toNat≤57)):=by unfold qdx;rw[h2]
    rw[hb];generalize hn:c.toNat=n at *
    have e0:((i:Int)==0)=decide (i=0):=by rw[Bool.eq_iff_iff];simp
    rw[e0];by_cases c1:65≤n
    · have a1:decide ((n:Int)≥65)=true:=by simp only[decide_eq_true_eq];omega
      simp only[a1,cond_true,Bool.true_and,hn];by_cases c2:n≤90
      · have a2:decide ((n:Int)≤90)=true:=by simp only[decide_eq_true_eq];omega
        simp[a2,c1,c2]
      · have a2:decide ((n:Int)≤90)=false:=by simp only[decide_eq_false_iff_not];omega
        have a3:decide ((n:Int)<48)=false:=by simp only[decide_eq_false_iff_not];omega
        have a4:decide ((n:Int)>57)=true:=by simp only[decide_eq_true_eq];omega
        have a5:¬n≤57:=by omega
        by_cases c3:i=0
        · simp[a2,c1,c2,c3]
        · simp[a2,a3,a4,a5,c1,c2,c3,hn]
    · have a1:decide ((n:Int)≥65)=false:=by simp only[decide_eq_false_iff_not];omega
      by_cases c3:i=0
      · simp[a1,c1,c3]
      · by_cases c4:48≤n
        · have a3:decide ((n:Int)<48)=false:=by simp only[decide_eq_false_iff_not];omega
          by_cases c5:n≤57
          · have a4:decide ((n:Int)>57)=false:=by simp only[decide_eq_false_iff_not];omega
            simp[a1,a3,a4,c1,c3,c4,c5,hn]
          · have a4:decide ((n:Int)>57)=true:=by simp only[decide_eq_true_eq];omega
            simp[a1,a3,a4,c1,c3,c4,c5,hn]
        · have a3:decide ((n:Int)<48)=true:=by simp only[decide_eq_true_eq];omega
          simp[a1,a3,c1,c3,c4,hn]) (by unfold qel;simp)
  rw[hL,ql1]
  cases (List.range s.size).any (qdx s) with
  | true=>rfl
  | false =>
    simp only[cond_false,Option.bind_some,Sum.elim_inl,Bool.not_false,Bool.true_and,Option.some.injEq];rw[Bool.eq_iff_iff];simp only[Bool.and_eq_true,Bool.not_eq_true',decide_eq_false_iff_not,decide_eq_true_eq];omega
def qmZ (w:Way):Bool:=((((!(qa w.1 (-7:Int) (7:Int)))||(!(qa w.2.1 (-7:Int) (7:Int))))||((w.1==(0:Int))&&(w.2.1==(0:Int))))||(!(qa w.2.2.1 (1:Int) (7:Int))))||(!(qa w.2.2.2.1 (0:Int) (2:Int)))
def pErr (l:List Piece) (i:Nat):Int:=match l[i]? with
  | none=>0
  | some p=>bif decide (p.1<65)||decide (p.1>90) then 6 else bif (l.take i).any (fun q=>q.1==p.1) then 7
    else bif (!(qa p.2.1 0 64))||(!(qa p.2.2.1 0 ((l.length:Nat):Int))) then 4 else bif decide (((p.2.2.2.1.length:Nat):Int)>16) then 2 else bif p.2.2.2.1.any qmZ then 4 else 0
theorem take_len {α:Type} (l:List α) {i:Nat} (h:i≤l.length):((l.take i).drop 0).length=i:=by simp;omega
theorem qqL (r:Rules):qe0 r=some (if r.pieces.length=0 then 8 else if 6<r.pieces.length then 2 else qr (pErr r.pieces) r.pieces.length):=by
  unfold qe0;by_cases c0:r.pieces.length=0
  · have:(((r.pieces.length:Nat):Int)==0)=true:=beq_t (by omega);rw[this,if_pos c0];rfl
  · have:(((r.pieces.length:Nat):Int)==0)=false:=beq_f (by omega);rw[this,if_neg c0,cond_false];by_cases c1:6<r.pieces.length
    · have:decide (((r.pieces.length:Nat):Int)>6)=true:=by simp only[decide_eq_true_eq];omega
      rw[this,if_pos c1];rfl
    · have:decide (((r.pieces.length:Nat):Int)>6)=false:=by simp only[decide_eq_false_iff_not];omega
      rw[this,if_neg c1,cond_false];rw[qoP r.pieces.length (qco r) (pErr r.pieces) ((),()) (some 0) (fun i hi=>?_) (by unfold qco;simp)]
      · split
        · rename_i h;rw[h]
        · rfl
      · unfold qco
        have h1:(i:Int)<(r.pieces.length:Int):=by omega
        have hg:r.pieces[i]?=some r.pieces[i]:=List.getElem?_eq_getElem hi
        have hb:qm 0 (i:Int) r.pieces.length=true:=by unfold qm;simp only[Bool.and_eq_true,decide_eq_true_eq];omega
        simp only[h1,decide_true,cond_true,at?_eq r.pieces (i:Int) (by omega) h1,Option.bind_some,Int.toNat_natCast,hb,qb,qg (n:=(i:Int)+1) (by omega) (by omega)];unfold pErr;rw[hg];generalize hp:r.pieces[i]=p;simp only
        cases hA:(decide (p.1<65)||decide (p.1>90)) with
        | true=>simp
        | false =>
          have hL2:=qt ((r.pieces.take i).drop 0) (fun q=>q.1==p.1) (qcr r (((i:Int),()),()) p) (.inr (.inr (.inr (.inr (7:Int))))) (.inl ((),())) (fun j hj=>by
            have hj':j<i:=by rw[take_len _ (by omega)] at hj;exact hj
            unfold qcr
            have h2:(j:Int)<((((r.pieces.take i).drop 0).length:Nat):Int):=by omega
            have h3:(j:Int)≥0:=by omega
            simp only[Int.toNat_natCast,h2,decide_true,cond_true,at?_eq ((r.pieces.take i).drop 0) (j:Int) (by omega) h2,Option.bind_some,h3,qg (n:=(j:Int)+1) (by omega) (by omega)]
            rfl) (by unfold qcr;simp)
          rw[hL2];simp only[List.drop_zero,cond_false,Option.bind_some]
          cases hB:(r.pieces.take i).any (fun q=>q.1==p.1) with
          | true=>simp
          | false =>
            simp only[cond_false,Sum.elim_inl]
            cases hC:((!(qa p.2.1 0 64))||(!(qa p.2.2.1 0 ((r.pieces.length:Nat):Int)))) with
            | true=>simp
            | false =>
              simp only[cond_false];by_cases cD:((p.2.2.2.1.length:Nat):Int)>16
              · simp[cD]
              · have hL4:=qt p.2.2.2.1 qmZ (qct p) (.inr (.inr (.inr (.inr (4:Int))))) (.inl ((),())) (fun j hj=>by
                  unfold qct
                  have h2:(j:Int)<((p.2.2.2.1.length:Nat):Int):=by omega
                  simp only[h2,decide_true,cond_true,at?_eq p.2.2.2.1 (j:Int) (by omega) h2,Option.bind_some,Int.toNat_natCast,qg (n:=(j:Int)+1) (by omega) (by omega)]
                  rfl) (by unfold qct;simp)
                simp only[cD,decide_false,cond_false,hL4,Option.bind_some]
                cases p.2.2.2.1.any qmZ<;>simp
def sErr (r:Rules) (i:Nat):Int:=bif qa (r.start.getD i 0) 0 (2*((r.pieces.length:Nat):Int)) then 0 else 4
def eErr (r:Rules) (i:Nat):Int:=match r.ends[i]? with
  | none=>0
  | some x=>bif !(qa x.1 0 2) then 1 else
    bif (!(bif x.1==1 then x.2.2.1==0 else qa x.2.2.1 1 64))||(!(bif x.1==0 then x.2.1==0 else qa x.2.1 0 (((r.pieces.length:Nat):Int)-1))) then 4 else 0
def qp4 (r:Rules):Int:=bif (((!(qa r.blocked (0:Int) (2:Int)))||(!(qa r.quiet (0:Int) (200:Int))))||((r.repeats !=(0:Int))&&(!(qa r.repeats (2:Int) (5:Int))))) then 4 else 0
def qjE (r:Rules):Int:=if 6<r.ends.length then 2 else qr (eErr r) r.ends.length
def qu (r:Rules):Int :=
  if qeH r.name=false then 6 else
  if ¬((1≤r.width∧r.width≤8)∧1≤r.height∧r.height≤8) then 4 else
  if r.pieces.length=0 then 8 else if 6<r.pieces.length then 2 else
  if qr (pErr r.pieces) r.pieces.length≠0 then qr (pErr r.pieces) r.pieces.length else
  if ((r.start.length:Nat):Int)≠r.width*r.height then 3 else
  if qr (sErr r) r.start.length≠0 then qr (sErr r) r.start.length else
  if qjE r≠0 then qjE r else qp4 r
theorem within_iff {n a b:Int}:qa n a b=true↔a≤n∧n≤b:=by unfold qa;simp
theorem qlu (r:Rules) (hl:r.pieces.length≤1000):qbf r=some (qjE r):=by
  unfold qbf qjE;by_cases c:6<r.ends.length
  · have:decide (((r.ends.length:Nat):Int)>6)=true:=by simp only[decide_eq_true_eq];omega
    rw[this,if_pos c];rfl
  · have:decide (((r.ends.length:Nat):Int)>6)=false:=by simp only[decide_eq_false_iff_not];omega
    rw[this,if_neg c,cond_false];rw[qoP r.ends.length (qaY r) (eErr r) ((),()) (some 0) (fun i hi=>?_) (by unfold qaY;simp)]
    · split
      · rename_i h;rw[h]
      · rfl
    · unfold qaY eErr
      have h1:(i:Int)<(r.ends.length:Int):=by omega
      have hg:r.ends[i]?=some r.ends[i]:=List.getElem?_eq_getElem hi;rw[hg];simp only[h1,decide_true,cond_true,at?_eq r.ends (i:Int) (by omega) h1,Option.bind_some,Int.toNat_natCast,qg (n:=(i:Int)+1) (by omega) (by omega),qg (n:=((r.pieces.length:Nat):Int)-1) (by omega) (by omega)];generalize r.ends[i]=x;by_cases k0:x.1=0
      · have:qa x.1 0 2=true:=within_iff.2 (by omega);have k1:(x.1==1)=false:=beq_f (by omega);simp only[this,beq_t k0,k1,cond_true,cond_false,Option.bind_some,Sum.elim_inl,Bool.not_true]
        cases qa x.2.2.1 1 64<;>cases (x.2.1==0)<;>simp
      · by_cases k1:x.1=1
        · have:qa x.1 0 2=true:=within_iff.2 (by omega);simp only[this,beq_f k0,beq_t k1,cond_true,cond_false,Option.bind_some,Sum.elim_inl,Bool.not_true]
          cases (x.2.2.1==0)<;>cases qa x.2.1 0 (((r.pieces.length:Nat):Int)-1)<;>simp
        · by_cases k2:x.1=2
          · have:qa x.1 0 2=true:=within_iff.2 (by omega);simp only[this,beq_f k0,beq_f k1,beq_t k2,cond_true,cond_false,Option.bind_some,Sum.elim_inl,Bool.not_true]
            cases qa x.2.2.1 1 64<;>cases qa x.2.1 0 (((r.pieces.length:Nat):Int)-1)<;>simp
          · have:qa x.1 0 2=false:=by
              rw[Bool.eq_false_iff];intro h;have:=within_iff.1 h;omega
            simp only[this,beq_f k0,beq_f k1,beq_f k2,cond_true,cond_false,Option.bind_some,Sum.elim_inr,Bool.not_false];rfl
theorem qgL (r:Rules) (hr:Rng qR r):qdg r=some (qu r):=by
  have hname:r.name.size≤9223372036854775807:=Nat.le_trans hr.1 (by decide);have hstart:r.start.length≤9223372036854775807:=Nat.le_trans hr.2.2.2.2.1.1 (by decide);have hP:r.2.2.2.1.length=r.pieces.length:=rfl;have hW:r.2.1*r.2.2.1=r.width*r.height:=rfl;have hE:r.2.2.2.2.2.2.2.1.length=r.ends.length:=rfl;unfold qdg qu;rw[qpm r.name hname,qqL r];simp only[Option.bind_some]
  cases qeH r.name with
  | false=>rfl
  | true =>
    simp only[Bool.not_true,cond_false,Bool.true_eq_false,if_false];by_cases cw:(1≤r.width∧r.width≤8)∧1≤r.height∧r.height≤8
    · have e1:((!(qa r.2.1 1 8))||(!(qa r.2.2.1 1 8)))=false:=by
        rw[within_iff.2 cw.1,within_iff.2 cw.2];rfl
      have e2:¬ ¬((1≤r.width∧r.width≤8)∧1≤r.height∧r.height≤8):=fun h=>h cw;simp only[e1,if_neg e2,cond_false];by_cases c0:r.pieces.length=0
      · simp only[if_pos c0];rfl
      · by_cases c6:6<r.pieces.length
        · simp only[if_neg c0,if_pos c6];rfl
        · simp only[if_neg c0,if_neg c6];by_cases cp:qr (pErr r.pieces) r.pieces.length=0
          · have hwh:w64 (r.2.1*r.2.2.1)=r.width*r.height:=by
              have h1:r.width*r.height≤8*8:=Int.mul_le_mul cw.1.2 cw.2.2 (by omega) (by omega);have h2:0≤r.width*r.height:=Int.mul_nonneg (by omega) (by omega);exact qg (by omega) (by omega)
            rw[cp,if_neg (fun h=>h rfl),hwh];simp only[bne_self_eq_false,cond_false];by_cases cs:((r.start.length:Nat):Int)=r.width*r.height
            · rw[bne_f cs,if_neg (fun h=>h cs),cond_false];rw[qoP r.start.length (qc6 r) (sErr r) ((),()) _ (fun i hi=>?_) (by unfold qc6;simp)]
              · rw[qlu r (by omega)];by_cases cse:qr (sErr r) r.start.length=0
                · rw[if_pos cse,if_neg (fun h=>h cse)];simp only[Option.bind_some];by_cases ce:qjE r=0
                  · rw[ce,if_neg (fun h=>h rfl)];simp only[bne_self_eq_false,cond_false];unfold qp4;exact qbw _ _ _
                  · rw[if_pos ce,bne_t ce];rfl
                · rw[if_neg cse,if_pos cse]
              · unfold qc6 sErr
                have h1:(i:Int)<(r.start.length:Int):=by omega
                have h3:(i:Int)≥0:=by omega
                have hgd:r.start.getD i 0=r.start[i]:=by simp[List.getD_eq_getElem?_getD,List.getElem?_eq_getElem hi]
                simp only[h1,decide_true,cond_true,at?_eq r.start (i:Int) (by omega) h1,Option.bind_some,Int.toNat_natCast,h3,qg (n:=(i:Int)+1) (by omega) (by omega),qg (n:=2*((r.pieces.length:Nat):Int)) (by omega) (by omega),hgd]
                cases qa r.start[i] 0 (2*((r.pieces.length:Nat):Int))<;>simp
            · rw[bne_t cs,if_pos cs];rfl
          · rw[bne_t cp,if_pos cp];rfl
    · have e1:((!(qa r.2.1 1 8))||(!(qa r.2.2.1 1 8)))=true:=by
        rw[Bool.or_eq_true,Bool.not_eq_true',Bool.not_eq_true'];by_cases k:qa r.2.1 1 8=true
        · right;rw[Bool.eq_false_iff];intro k2;exact cw ⟨within_iff.1 k,within_iff.1 k2⟩
        · left;exact Bool.eq_false_iff.2 k
      rw[e1,if_pos cw];rfl
end Go.Proofs.YthidcmjpbokeeaaGreat
namespace Go.Den
set_option linter.unusedVariables false
set_option linter.unusedSimpArgs false

def foldN {A:Type} (g:Nat→A→A):Nat→A→A
  | 0,a=>a
  | n+1,a=>g n (foldN g n a)
theorem qoS {A R:Type} (n:Nat) (f:((A×Int×Unit)×Unit)→Option (((A×Int×Unit)×Unit) ⊕ R)) (g:Nat→A→A) (fin:A→R) (I:Nat→A→Prop) (a0:A) (h0:I 0 a0)
    (hs:∀i,i<n→∀a,I i a→f ((a,(i:Int),()),())=some (.inl ((g i a,((i:Int)+1),()),()))∧I (i+1) (g i a)) (he:∀a,I n a→f ((a,(n:Int),()),())=some (.inr (fin a))) :
    iterW f ((a0,(0:Int),()),())=some (fin (foldN g n a0)):=by
  have hI:∀i,i≤n→I i (foldN g i a0):=fun i=>by
    induction i with
    | zero=>intro _;exact h0
    | succ i ih=>intro hi;exact(hs i (by omega) _ (ih (by omega))).2
  have:=qd9 (f:=f) n (fun i=>((foldN g i a0,(i:Int),()),())) (fin (foldN g n a0)) (fun i hi=>by
    rw[(hs i hi _ (hI i (by omega))).1]
    simp[foldN]) (he _ (hI n (Nat.le_refl _)))
  exact this
theorem qo9 {A:Type} (F:Nat→List A):∀(n:Nat) (a:List A),foldN (fun i a=>a++F i) n a=a++(List.range n).flatMap F
  | 0,a=>by simp[foldN]
  | n+1,a=>by rw[foldN,qo9 F n,List.range_succ];simp
theorem qd0 {A R:Type} (n B:Nat) (f:(((List A)×Int×Unit)×Unit)→Option ((((List A)×Int×Unit)×Unit) ⊕ R)) (F:Nat→List A) (fin:List A→R) (a0:List A) (hF:∀i,i<n→(F i).length≤B)
    (hs:∀i,i<n→∀a:List A,a.length≤a0.length+i*B→f ((a,(i:Int),()),())=some (.inl ((a++F i,((i:Int)+1),()),()))) (he:∀a,f ((a,(n:Int),()),())=some (.inr (fin a))) :
    iterW f ((a0,(0:Int),()),())=some (fin (a0++(List.range n).flatMap F)):=by
  rw[←qo9];refine qoS n f (fun i a=>a++F i) fin (fun i a=>a.length≤a0.length+i*B) a0 (by simp) (fun i hi a ha=>⟨hs i hi a ha,?_⟩) (fun a _=>he a);have:=hF i hi;rw[List.length_append,Nat.add_mul];omega
theorem qa4 {A C:Type} (F:C→List A) (B:Nat):∀l:List C,(∀x∈l,(F x).length≤B)→(l.flatMap F).length≤l.length*B
  | [],_=>by simp
  | x::l,h=>by
    have:=qa4 F B l (fun y hy=>h y (List.mem_cons_of_mem _ hy));have:=h x List.mem_cons_self;rw[List.flatMap_cons,List.length_append,List.length_cons,Nat.add_mul];omega
theorem foldN_all {A:Type} (xs:List A) (q:A→Bool) (b0:Bool):∀n,n≤xs.length→foldN (fun i b=>b&&((xs[i]?).map q).getD true) n b0=(b0&&(xs.take n).all q)
  | 0,_=>by simp[foldN]
  | n+1,h=>by
    have hn:n<xs.length:=by omega
    rw[foldN,foldN_all xs q b0 n (by omega),List.getElem?_eq_getElem hn,List.take_succ_eq_append_getElem hn,List.all_append];simp[Bool.and_assoc]
theorem qju {A R:Type} (xs:List A) (q:A→Bool) (f:((Int×Int×Unit)×Unit)→Option (((Int×Int×Unit)×Unit) ⊕ R)) (fin:Int→R)
    (hs:∀(i:Nat) (hi:i<xs.length) (c:Int),0≤c→c≤i→f ((c,(i:Int),()),())=some (.inl (((bif q xs[i] then c+1 else c),((i:Int)+1),()),()))) (he:∀c,f ((c,(xs.length:Int),()),())=some (.inr (fin c))) :
    iterW f (((0:Int),(0:Int),()),())=some (fin ((xs.countP q:Nat):Int)):=by
  have hf:∀n,n≤xs.length→foldN (fun i (c:Int)=>bif ((xs[i]?).map q).getD false then c+1 else c) n 0=(((xs.take n).countP q:Nat):Int):=fun n=>by
    induction n with
    | zero=>intro _;simp[foldN]
    | succ n ih =>
      intro h
      have hn:n<xs.length:=by omega
      rw[foldN,ih (by omega),List.getElem?_eq_getElem hn,List.take_succ_eq_append_getElem hn,List.countP_append];simp only[Option.map_some,Option.getD_some,List.countP_cons,List.countP_nil]
      cases q xs[n]<;>simp
  have:=hf xs.length (Nat.le_refl _);rw[List.take_length] at this;rw[←this];refine qoS xs.length f _ fin (fun i c=>0≤c∧c≤i) 0 (by simp) (fun i hi c hc=>⟨?_,?_⟩) (fun b _=>he b)
  · rw[hs i hi c hc.1 hc.2,List.getElem?_eq_getElem hi];rfl
  · cases ((xs[i]?).map q).getD false<;>simp<;>omega
theorem Le.iterW {T α:Type} {f g:T→Option (T ⊕ α)} (h:∀x,Le (f x) (g x)) (x:T):Le (Go.Den.iterW f x) (Go.Den.iterW g x):=fun r hr=>by
  obtain⟨n,hn⟩:=ql7 hr;exact Le.iter h n x r hn
theorem Le.agreeW {α:Type} {a b a' b':Option α} (h:Le a a') (h':Le b b'):Le (Go.Den.agree a b) (Go.Den.agree a' b'):=fun r hr=>by
  unfold Go.Den.agree at hr ⊢;split at hr
  · rename_i e;rw[h r hr,h' r (e▸hr),if_pos rfl]
  · cases hr
theorem fixW_ind {T α:Type} {G:(T→Option α)→T→Option α} (hG:Mono G) (I:T→Prop) (μ:T→Nat) (s:T→α)
    (h:∀φ x,I x→(∀y,I y→μ y<μ x→φ y=some (s y))→G φ x=some (s x)):∀x,I x→fixW G x=some (s x):=by
  have a2:∀n x,I x→μ x<n→fixN G n x=some (s x):=by
    intro n
    induction n with
    | zero=>intro x _ hl;omega
    | succ n ih=>intro x hx hl;exact h _ x hx fun y hy hm=>ih y hy (by omega)
  intro x hx;exact Le.fix (fun φ ψ hs y=>hG φ ψ hs y) hG (μ x+1) x _ (a2 _ x hx (Nat.lt_succ_self _))
end Go.Den
namespace Go.Proofs.YthidcmjpbokeeaaGreat
open Go.Den
set_option linter.unusedVariables false
set_option linter.unusedSimpArgs false
set_option maxRecDepth 100000

abbrev Place:=(List Int)×((List Int)×(List Int)×Unit)×Int×Int×Unit
abbrev Place.cells (p:Place):List Int:=p.1
abbrev Place.h0 (p:Place):List Int:=p.2.1.1
abbrev Place.h1 (p:Place):List Int:=p.2.1.2.1
abbrev Place.turn (p:Place):Int:=p.2.2.1
abbrev Place.quiet (p:Place):Int:=p.2.2.2.1
theorem agree_self {α:Type} (x:Option α):agree x x=x:=by simp[agree]
theorem qei (s:List Int) (h:s.length≤1000000):qz s=some s:=by
  unfold qz;have:room (([]:List Int).length+s.length) 8=true:=qZ (by simp;omega);rw[this]
  cases s with
  | nil=>simp[qb,agree_self]
  | cons a l=>simp[qb]
theorem concat2 (a b:List Int) (ha:a.length≤1000) (hb:b.length≤1000):qbA [a,b]=some (a++b):=by
  have w1:w64 (0+((a.length:Nat):Int))=(a.length:Int):=by rw[Int.zero_add];exact qg (by omega) (by omega)
  have w2:w64 ((a.length:Int)+((b.length:Nat):Int))=((a.length+b.length:Nat):Int):=by rw[qg (by omega) (by omega)];omega
  have w3:w64 ((0:Int)+1)=1:=by decide
  have w4:w64 ((1:Int)+1)=2:=by decide
  have g0:at? [a,b] 0=some a:=rfl;have g1:at? [a,b] 1=some b:=rfl;have l1:iterW (qH [a,b]) (((0:Int),(0:Int),()),())=some (((((a.length+b.length:Nat):Int)),()),()):=by
    have s0:qH [a,b] (((0:Int),(0:Int),()),())=some (.inl ((((a.length:Nat):Int),(1:Int),()),())):=by
      unfold qH;simp only[g0,w1,w3,Option.bind_some];rw[show decide (((a.length:Nat):Int)<0)=false by simp];rfl
    have s1:qH [a,b] ((((a.length:Nat):Int),(1:Int),()),())=some (.inl ((((a.length+b.length:Nat):Int),(2:Int),()),())):=by
      unfold qH;simp only[g1,w2,w4,Option.bind_some];rw[show decide (((a.length+b.length:Nat):Int)<0)=false by simp;omega];rfl
    have s2:qH [a,b] ((((a.length+b.length:Nat):Int),(2:Int),()),())=some (.inr ((((a.length+b.length:Nat):Int),()),())):=rfl;rw[qo s0,qo s1,qj s2]
  have l2:iterW (qI [a,b]) ((([]:List Int),(0:Int),()),())=some ((a++b,()),()):=by
    have s0:qI [a,b] ((([]:List Int),(0:Int),()),())=some (.inl ((a,(1:Int),()),())):=by
      unfold qI;simp only[g0,w3,Option.bind_some];rw[qZ (by simp;omega)];rfl
    have s1:qI [a,b] ((a,(1:Int),()),())=some (.inl ((a++b,(2:Int),()),())):=by
      unfold qI;simp only[g1,w4,Option.bind_some];rw[qZ (by omega)];rfl
    have s2:qI [a,b] ((a++b,(2:Int),()),())=some (.inr ((a++b,()),())):=rfl;rw[qo s0,qo s1,qj s2]
  unfold qbA;simp only[l1,Option.bind_some];rw[show decide (((a.length+b.length:Nat):Int)<0)=false by simp;omega]
  have w5:w64 (((a.length+b.length:Nat):Int)-0)=((a.length+b.length:Nat):Int):=by rw[Int.sub_zero];exact qg (by omega) (by omega)
  simp only[w5,cond_false];by_cases c:a.length+b.length=0
  · rw[c];simp only[Int.natCast_zero,show decide ((0:Int)>0)=false by decide,cond_false,Option.bind_some];rw[l2];rfl
  · have c1:decide (((a.length+b.length:Nat):Int)>0)=true:=by simp;omega
    have c2:decide (0<((a.length+b.length:Nat):Int))=true:=by simp;omega
    have c3:room ((((a.length+b.length:Nat):Int)).toNat) 8=true:=qZ (by omega)
    have c4:∀l:List Int,qm 0 0 l.length=true:=fun l=>by simp[qm]
    simp only[c1,c2,c3,c4,cond_true,Bool.and_self,qb,Option.bind_some,List.take_zero];rw[l2];rfl

def outC (r:Rules) (d:Int):Bool:=decide (d<0)||decide (d>2*((r.pieces.length:Nat):Int))
def outH (d:Int):Bool:=decide (d<0)||decide (d>1000)
def outT (p:Place):Bool:=(((p.turn !=0)&&(p.turn !=1))||decide (p.quiet<0))||decide (p.quiet>200)
def qe2 (r:Rules) (p:Place):Bool:=p.cells.any (outC r)||((p.h0++p.h1).any outH||outT p)
def qhB (r:Rules) (p:Place):Bool:=((((p.cells.length:Nat):Int)!=r.width*r.height)||(((p.h0.length:Nat):Int)!=((r.pieces.length:Nat):Int)))||(((p.h1.length:Nat):Int)!=((r.pieces.length:Nat):Int))
def qar (r:Rules) (p:Place):Int:=if qu r≠0 then qu r else bif qhB r p then 3 else bif qe2 r p then 4 else 0

structure VR0 (r:Rules):Prop where
  w1:1≤r.width
  w8:r.width≤8
  h1:1≤r.height
  h8:r.height≤8
  t1:1≤r.pieces.length
  t6:r.pieces.length≤6
  hand:∀q∈r.pieces,0≤q.2.1∧q.2.1≤64
  prom:∀q∈r.pieces,0≤q.2.2.1∧q.2.2.1≤((r.pieces.length:Nat):Int)
  ways:∀q∈r.pieces,q.2.2.2.1.length≤16
  way:∀q∈r.pieces,∀w∈q.2.2.2.1,(-7≤w.1∧w.1≤7)∧(-7≤w.2.1∧w.2.1≤7)∧¬(w.1=0∧w.2.1=0)∧(1≤w.2.2.1∧w.2.2.1≤7)∧(0≤w.2.2.2.1∧w.2.2.2.1≤2)
  start:((r.start.length:Nat):Int)=r.width*r.height
  startC:∀c∈r.start,0≤c∧c≤2*((r.pieces.length:Nat):Int)
  ends6:r.ends.length≤6
  ends:∀x∈r.ends,(0≤x.1∧x.1≤2)∧(if x.1=1 then x.2.2.1=0 else 1≤x.2.2.1∧x.2.2.1≤64)∧(if x.1=0 then x.2.1=0 else 0≤x.2.1∧x.2.1≤((r.pieces.length:Nat):Int)-1)
  blocked:0≤r.blocked∧r.blocked≤2
  quiet:0≤r.quiet∧r.quiet≤200
  repeats:r.repeats=0∨(2≤r.repeats∧r.repeats≤5)
structure Valid (r:Rules) (p:Place):Prop where
  r0:VR0 r
  cells:((p.cells.length:Nat):Int)=r.width*r.height
  l0:p.h0.length=r.pieces.length
  l1:p.h1.length=r.pieces.length
  cell:∀c∈p.cells,0≤c∧c≤2*((r.pieces.length:Nat):Int)
  hand0:∀c∈p.h0,0≤c∧c≤1000
  hand1:∀c∈p.h1,0≤c∧c≤1000
  turn:p.turn=0∨p.turn=1
  quiet:0≤p.quiet∧p.quiet≤200

theorem qqB {α:Type} {l:List α} {x:α} (h:x∈l):∃i,i<l.length∧l[i]?=some x:=by
  obtain⟨i,hi,e⟩:=List.mem_iff_getElem.1 h;exact⟨i,hi,by rw[List.getElem?_eq_getElem hi,e]⟩
theorem qcl {r:Rules} (h:qu r=0):VR0 r:=by
  unfold qu at h;split at h
  · cases h
  split at h
  · cases h
  rename_i _ h2;have h2:=Decidable.not_not.1 h2;split at h
  · cases h
  rename_i h3;split at h
  · cases h
  rename_i h4;split at h
  · rename_i h5;exact absurd h h5
  rename_i h5;have h5:=qaL (Decidable.not_not.1 h5);split at h
  · cases h
  rename_i h6;have h6:=Decidable.not_not.1 h6;split at h
  · rename_i h7;exact absurd h h7
  rename_i h7;have h7:=qaL (Decidable.not_not.1 h7);split at h
  · rename_i h8;exact absurd h h8
  rename_i h8;have h8:=Decidable.not_not.1 h8;unfold qjE at h8;split at h8
  · cases h8
  rename_i h9;have h8:=qaL h8;have hp:∀q∈r.pieces,(0≤q.2.1∧q.2.1≤64)∧(0≤q.2.2.1∧q.2.2.1≤((r.pieces.length:Nat):Int))∧q.2.2.2.1.length≤16∧q.2.2.2.1.any qmZ=false:=fun q hq=>by
    obtain⟨i,hi,e⟩:=qqB hq;have:=h5 i hi;unfold pErr at this;rw[e] at this;simp only at this;cases c1:(decide (q.1<65)||decide (q.1>90))
    · cases c2:(r.pieces.take i).any (fun q'=>q'.1==q.1)
      · cases c3:((!(qa q.2.1 0 64))||(!(qa q.2.2.1 0 ((r.pieces.length:Nat):Int))))
        · cases c4:decide (((q.2.2.2.1.length:Nat):Int)>16)
          · cases c5:q.2.2.2.1.any qmZ
            · simp only[Bool.or_eq_false_iff,Bool.not_eq_false'] at c3;simp only[decide_eq_false_iff_not] at c4;exact⟨within_iff.1 c3.1,within_iff.1 c3.2,by omega,rfl⟩
            · simp[c1,c2,c3,c4,c5] at this
          · simp[c1,c2,c3,c4] at this
        · simp[c1,c2,c3] at this
      · simp[c1,c2] at this
    · simp[c1] at this
  refine⟨h2.1.1,h2.1.2,h2.2.1,h2.2.2,by omega,by omega,fun q hq=>(hp q hq).1,fun q hq=>(hp q hq).2.1,fun q hq=>(hp q hq).2.2.1,fun q hq w hw=>?_,h6,fun c hc=>?_,by omega,fun x hx=>?_,?_,?_,?_⟩
  · have:=(hp q hq).2.2.2;rw[List.any_eq_false] at this;have:=this w hw;unfold qmZ at this;simp only[Bool.not_eq_true,Bool.or_eq_false_iff,Bool.not_eq_false',within_iff,Bool.and_eq_false_iff,beq_eq_false_iff_ne] at this;refine⟨this.1.1.1.1,this.1.1.1.2,fun h=>?_,this.1.2,this.2⟩;rcases this.1.1.2 with h' | h'
    · exact h' h.1
    · exact h' h.2
  · obtain⟨i,hi,e⟩:=qqB hc;have:=h7 i hi;unfold sErr at this;rw[List.getD_eq_getElem?_getD,e] at this;cases c1:qa c 0 (2*((r.pieces.length:Nat):Int))
    · simp[c1] at this
    · exact within_iff.1 c1
  · obtain⟨i,hi,e⟩:=qqB hx;have:=h8 i hi;unfold eErr at this;rw[e] at this;simp only at this;cases c1:qa x.1 0 2
    · simp[c1] at this
    · cases c2:(!(bif x.1==1 then x.2.2.1==0 else qa x.2.2.1 1 64))||(!(bif x.1==0 then x.2.1==0 else qa x.2.1 0 (((r.pieces.length:Nat):Int)-1)))
      · simp only[Bool.or_eq_false_iff,Bool.not_eq_false'] at c2;refine⟨within_iff.1 c1,?_,?_⟩
        · have:=c2.1;by_cases e1:x.1=1
          · rw[if_pos e1];simpa[e1] using this
          · rw[if_neg e1];rw[beq_f e1,cond_false] at this;exact within_iff.1 this
        · have:=c2.2;by_cases e1:x.1=0
          · rw[if_pos e1];simpa[e1] using this
          · rw[if_neg e1];rw[beq_f e1,cond_false] at this;exact within_iff.1 this
      · simp[c1,c2] at this
  all_goals
    unfold qp4 at h;cases c1:(((!(qa r.blocked (0:Int) (2:Int)))||(!(qa r.quiet (0:Int) (200:Int))))||((r.repeats !=(0:Int))&&(!(qa r.repeats (2:Int) (5:Int)))))
    · simp only[Bool.or_eq_false_iff,Bool.not_eq_false',within_iff,Bool.and_eq_false_iff,bne_eq_false_iff_eq] at c1
      first
      | exact c1.1.1
      | exact c1.1.2
      | exact c1.2
    · simp[c1] at h
theorem VR0.area {r:Rules} (h:VR0 r):1≤r.width*r.height∧r.width*r.height≤64:=by
  have h1:r.width*r.height≤8*8:=Int.mul_le_mul h.w8 h.h8 (by have:=h.h1;omega) (by omega);have h2:1*1≤r.width*r.height:=Int.mul_le_mul h.w1 h.h1 (by omega) (by have:=h.w1;omega);omega
theorem qsh (r:Rules) (p:Place) (hr:VR0 r) (hn:p.1.length≤9223372036854775807):qgx r p=some (bif qhB r p then 3 else bif qe2 r p then 4 else 0):=by
  have ha:=hr.area;have ht:=hr.t6;unfold qgx qhB;rw[show r.2.1*r.2.2.1=r.width*r.height from rfl,qg (n:=r.width*r.height) (by omega) (by omega)]
  cases hb:((((((p.1.length:Nat):Int)!=r.width*r.height)||(((p.2.1.1.length:Nat):Int)!=((r.2.2.2.1.length:Nat):Int)))||(((p.2.1.2.1.length:Nat):Int)!=((r.2.2.2.1.length:Nat):Int)))) with
  | true=>rfl
  | false =>
    simp only[Bool.or_eq_false_iff,bne_eq_false_iff_eq] at hb;obtain⟨⟨b1,b2⟩,b3⟩:=hb;have ht':r.2.2.2.1.length≤6:=ht;rw[cond_false,cond_false,concat2 _ _ (by omega) (by omega),Option.bind_some];unfold qe2
    have hl2:(p.2.1.1++p.2.1.2.1).length≤2000:=by simp;omega
    show _=some (bif (p.1.any (outC r)||((p.2.1.1++p.2.1.2.1).any outH||outT p)) then(4:Int) else 0);generalize p.2.1.1++p.2.1.2.1=l at hl2;have i1:iterW (qcc p r l) (((0:Int),()),())=some (bif p.1.any (outC r) then .inr ((true,()),()) else .inl ((),())):=by
      refine qt p.1 (outC r) (qcc p r l) (.inr ((true,()),())) (.inl ((),())) (fun i hi=>?_) ?_
      · unfold qcc;simp only[show decide ((i:Int)<((p.1.length:Nat):Int))=true by simp;omega,cond_true];rw[at?_eq _ _ (by omega) (by omega)];simp only[Option.bind_some,Int.toNat_natCast,List.getElem?_eq_getElem hi];rw[qg (n:=(i:Int)+1) (by omega) (by omega),show decide ((i:Int)≥0)=true by simp];rw[qg (n:=(2:Int)*((r.2.2.2.1.length:Nat):Int)) (by omega) (by omega)];unfold outC;generalize (decide (p.1[i]<(0:Int))||decide (p.1[i]>((2:Int)*((r.2.2.2.1.length:Nat):Int))))=q
        cases q<;>rfl
      · unfold qcc;simp
    have i2:iterW (qb7 l p) (((0:Int),()),())=some (bif l.any outH then .inr ((true,()),()) else .inl ((),())):=by
      refine qt l outH (qb7 l p) (.inr ((true,()),())) (.inl ((),())) (fun i hi=>?_) ?_
      · unfold qb7;simp only[show decide ((i:Int)<((l.length:Nat):Int))=true by simp;omega,cond_true,Int.toNat_natCast,show inb (i:Int) l.length=true from inb_iff.2 ⟨by omega,by omega⟩,qb,show decide ((i:Int)≥0)=true by simp];rw[qg (n:=(i:Int)+1) (by omega) (by omega)]
        have e:getD' l i (0:Int)=l[i]:=by simp[getD',hi]
        have e':outH l[i]=(decide (getD' l i (0:Int)<(0:Int))||decide (getD' l i (0:Int)>(1000:Int))):=by rw[e];rfl
        rw[e'];generalize (decide (getD' l i (0:Int)<(0:Int))||decide (getD' l i (0:Int)>(1000:Int)))=q
        cases q<;>simp
      · unfold qb7;simp
    have e4:iterW (qiL p r l) (((0:Int),()),())=_:=i1;have e6:iterW (qiG l p) (((0:Int),()),())=_:=i2;simp only[i1,i2,e4,e6,agree_self,Option.bind_some];unfold outT;cases p.1.any (outC r)
    · cases l.any outH
      · simp only[cond_false,Sum.elim_inl,Option.bind_some,Bool.false_or];exact(qbw _ _ _)
      · rfl
    · rfl
theorem qmS (r:Rules) (p:Place) (hr:Rng qR r) (hn:p.1.length≤9223372036854775807):qeD r p=some (qar r p):=by
  unfold qeD qar;rw[qgL r hr,Option.bind_some];by_cases c:qu r=0
  · rw[bne_f c,cond_false,if_neg (by simpa using c),qsh r p (qcl c) hn];rfl
  · rw[bne_t c,cond_true,if_pos c]
theorem qkI {r:Rules} {p:Place} (h:qar r p=0):Valid r p:=by
  unfold qar at h;split at h
  · rename_i c;exact absurd h c
  rename_i c;have hv:=qcl (Decidable.not_not.1 c);cases c1:qhB r p
  · rw[c1,cond_false] at h;cases c2:qe2 r p
    · unfold qhB at c1;unfold qe2 outT at c2;simp only[Bool.or_eq_false_iff,bne_eq_false_iff_eq,List.any_eq_false,Bool.and_eq_false_iff,decide_eq_false_iff_not,List.mem_append,outC,outH,decide_eq_true_eq,Bool.not_eq_true] at c1 c2;obtain⟨⟨a1,a2⟩,a3⟩:=c1;obtain⟨b1,b2,⟨b3,b4⟩,b5⟩:=c2;exact⟨hv,a1,by omega,by omega,fun c hc=>by have:=b1 c hc;omega,fun c hc=>by have:=b2 c (.inl hc);omega,fun c hc=>by have:=b2 c (.inr hc);omega,b3,by omega⟩
    · rw[c2] at h;cases h
  · rw[c1] at h;cases h

abbrev RWay:=Int×Int×Int×Int×Unit
def cellI (p:Place) (s:Int):Int:=p.cells.getD s.toNat 0
def onB (r:Rules) (x y:Int):Bool:=decide (0≤x∧x<r.width∧0≤y∧y<r.height)
def sq (r:Rules) (x y:Int):Int:=y*r.width+x
def enemy (p:Place) (c:Int):Bool:=decide (c>0)&&((c-1).tmod 2 !=p.turn)
def mineB (p:Place) (c:Int):Bool:=decide (c>0)&&((c-1).tmod 2==p.turn)
def takes (p:Place) (w:RWay) (c:Int):Bool:=((c==0)&&(w.2.2.2.1 !=2))||(enemy p c&&(w.2.2.2.1 !=0))
def dyOf (p:Place) (w:RWay):Int:=if p.turn=1 then-w.2.1 else w.2.1
def wayL (r:Rules) (p:Place) (w:RWay):Nat→Int→Int→List Int
  | 0,_,_=>[]
  | n+1,x,y=>bif onB r (x+w.1) (y+dyOf p w) then(bif takes p w (cellI p (sq r (x+w.1) (y+dyOf p w))) then [sq r (x+w.1) (y+dyOf p w)] else [])++(bif cellI p (sq r (x+w.1) (y+dyOf p w))==0 then wayL r p w n (x+w.1) (y+dyOf p w) else []) else []
def wayS (r:Rules) (p:Place) (s:Int) (w:RWay):List Int:=wayL r p w w.2.2.1.toNat (s.tmod r.width) (s.tdiv r.width)

def WayOk (w:RWay):Prop:=(-7≤w.1∧w.1≤7)∧(-7≤w.2.1∧w.2.1≤7)∧¬(w.1=0∧w.2.1=0)∧(1≤w.2.2.1∧w.2.2.1≤7)∧(0≤w.2.2.2.1∧w.2.2.2.1≤2)
theorem Valid.wayOk {r:Rules} {p:Place} (h:Valid r p) {q:Piece} (hq:q∈r.pieces) {w:RWay} (hw:w∈q.2.2.2.1):WayOk w:=h.r0.way q hq w hw
theorem dyOf_rng {p:Place} {w:RWay} (h:WayOk w) : -7≤dyOf p w∧dyOf p w≤7:=by
  unfold dyOf;obtain⟨_,h1,_⟩:=h;split<;>omega
theorem onB_iff {r:Rules} {x y:Int}:onB r x y=true↔0≤x∧x<r.width∧0≤y∧y<r.height:=by simp[onB]
theorem qnS {y W H:Int} (hW:0≤W) (h0:0≤y) (h1:y<H):0≤y*W∧y*W≤W*H-W:=by
  refine⟨Int.mul_nonneg h0 hW,?_⟩;have:=Int.mul_le_mul_of_nonneg_right (show y≤H-1 by omega) hW;rw[Int.sub_mul,Int.one_mul,Int.mul_comm H W] at this;exact this
theorem qr0 {r:Rules} (hr:VR0 r) {x y:Int} (h:onB r x y=true):0≤sq r x y∧sq r x y<r.width*r.height:=by
  obtain⟨h1,h2,h3,h4⟩:=onB_iff.1 h;have:=qnS (show 0≤r.width by have:=hr.w1;omega) h3 h4;unfold sq;omega
theorem qhN {p:Place} {s:Int} (h0:0≤s) (h1:s<((p.cells.length:Nat):Int)):at? p.1 s=some (cellI p s):=by
  rw[at?_eq p.1 s h0 h1];unfold cellI;have h1':s<((p.1.length:Nat):Int):=h1;rw[List.getD_eq_getElem?_getD,List.getElem?_eq_getElem (by show s.toNat<p.1.length;omega)];rfl
theorem qrS {r:Rules} {p:Place} (h:Valid r p) (s:Int):0≤cellI p s∧cellI p s≤2*((r.pieces.length:Nat):Int):=by
  unfold cellI;rw[List.getD_eq_getElem?_getD]
  cases e:p.cells[s.toNat]? with
  | none=>simp;omega
  | some c=>exact h.cell c (List.mem_of_getElem? e)
theorem qjp {r:Rules} {p:Place} (h:Valid r p) (s:Int):0≤cellI p s∧cellI p s≤12:=by
  have:=qrS h s;have:=h.r0.t6;omega
theorem qrQ (r:Rules) (p:Place) (w:RWay):∀(n:Nat) (x y:Int),(wayL r p w n x y).length≤n
  | 0,x,y=>by simp[wayL]
  | n+1,x,y=>by
    unfold wayL;have:=qrQ r p w n (x+w.1) (y+dyOf p w);cases onB r (x+w.1) (y+dyOf p w)
    · simp
    · cases takes p w (cellI p (sq r (x+w.1) (y+dyOf p w)))<;>cases (cellI p (sq r (x+w.1) (y+dyOf p w))==0)<;>simp<;>omega
theorem qre {r:Rules} {p:Place} {w:RWay} {t:Int}:∀ {n:Nat} {x y:Int},t∈wayL r p w n x y→∃j:Int,1≤j∧onB r (x+j*w.1) (y+j*dyOf p w)=true∧t=sq r (x+j*w.1) (y+j*dyOf p w)
  | 0,x,y,h=>by simp[wayL] at h
  | n+1,x,y,h=>by
    unfold wayL at h
    cases hb:onB r (x+w.1) (y+dyOf p w) with
    | false=>simp[hb] at h
    | true =>
      rw[hb,cond_true] at h;rcases List.mem_append.1 h with h | h
      · refine⟨1,by omega,by simpa using hb,?_⟩
        cases ht:takes p w (cellI p (sq r (x+w.1) (y+dyOf p w)))<;>simp[ht] at h
        simpa using h
      · cases hc:(cellI p (sq r (x+w.1) (y+dyOf p w))==0)<;>simp[hc] at h
        obtain⟨j,h1,h2,h3⟩:=qre h
        have e1:x+w.1+j*w.1=x+(j+1)*w.1:=by rw[Int.add_mul];omega
        have e2:y+dyOf p w+j*dyOf p w=y+(j+1)*dyOf p w:=by rw[Int.add_mul];omega
        rw[e1,e2] at h2 h3;exact⟨j+1,by omega,h2,h3⟩
theorem qlU {r:Rules} {p:Place} (h:VR0 r) {w:RWay} {n:Nat} {x y t:Int} (ht:t∈wayL r p w n x y):0≤t∧t<r.width*r.height:=by
  obtain⟨j,h1,h2,h3⟩:=qre ht;rw[h3];exact qr0 h h2
theorem qnY {r:Rules} (hr:VR0 r) {s:Int} (h0:0≤s) (h1:s<r.width*r.height):(0≤s.tmod r.width∧s.tmod r.width<r.width)∧0≤s.tdiv r.width∧s.tdiv r.width<r.height:=by
  have hw:=hr.w1;rw[Int.tmod_eq_emod_of_nonneg h0,Int.tdiv_eq_ediv_of_nonneg h0];refine⟨⟨Int.emod_nonneg _ (by omega),Int.emod_lt_of_pos _ (by omega)⟩,Int.ediv_nonneg h0 (by omega),Int.ediv_lt_of_lt_mul (by omega) (by rw[Int.mul_comm];exact h1)⟩
theorem qsS {r:Rules} {p:Place} (h:Valid r p) {w:RWay} (hw:WayOk w) (s:Int) :
    ((((w.2.2.2.1==(0:Int))&&(cellI p s==(0:Int)))||((w.2.2.2.1==(1:Int))&&((cellI p s==(0:Int))||((decide (cellI p s>(0:Int)))&&(((w64 (cellI p s-(1:Int))).tmod (2:Int))!=p.2.2.1)))))||((w.2.2.2.1==(2:Int))&&((decide (cellI p s>(0:Int)))&&(((w64 (cellI p s-(1:Int))).tmod (2:Int))!=p.2.2.1))))=takes p w (cellI p s):=by
  have hc:=qjp h s;rw[qg (n:=cellI p s-1) (by omega) (by omega)];obtain⟨_,_,_,_,h5⟩:=hw
  have h6:w.2.2.2.1=0∨w.2.2.2.1=1∨w.2.2.2.1=2:=by omega
  unfold takes enemy;rw[show p.turn=p.2.2.1 from rfl];generalize hA:(cellI p s==0)=A;have hA':A=true→decide (cellI p s>0)=false:=fun h=>by
    subst hA;rw[beq_iff_eq] at h;simp[h]
  generalize decide (cellI p s>0)=B at hA';generalize ((cellI p s-1).tmod 2 !=p.2.2.1)=C
  rcases h6 with h6 | h6 | h6<;>rw[h6]<;>cases A<;>cases B<;>cases C<;>simp_all
theorem qrE {r:Rules} {p:Place} (h:Valid r p) {w:RWay} (hw:WayOk w):∀(n:Nat) (out:List Int) (x y k:Int),0≤k→k+n=w.2.2.1→out.length≤k.toNat→(0≤x∧x<r.width)→(0≤y∧y<r.height) →
    iterW (qcj w r ((dyOf p w,()),()) p) ((out,x,y,k,()),())=some ((out++wayL r p w n x y,()),())
  | 0,out,x,y,k,h0,hk,ho,hx,hy=>by
    refine qj ?_;unfold qcj
    have:decide (k<w.2.2.1)=false:=by simp;omega
    simp only[this,cond_false,wayL,List.append_nil]
  | n+1,out,x,y,k,h0,hk,ho,hx,hy=>by
    have hr:=h.r0;have hd:=dyOf_rng (p:=p) hw;obtain⟨hdx,_,_,hm,_⟩:=hw;have:=hr.w8;have:=hr.h8;have:=hr.w1;have:=hr.h1;have ha:=hr.area
    have hlt:decide (k<w.2.2.1)=true:=by simp;omega
    have wx:w64 (x+w.1)=x+w.1:=qg (by omega) (by omega);have wy:w64 (y+dyOf p w)=y+dyOf p w:=qg (by omega) (by omega);have wk:w64 (k+1)=k+1:=qg (by omega) (by omega);have hoff:((((decide (x+w.1<(0:Int)))||(decide (x+w.1≥r.2.1)))||(decide (y+dyOf p w<(0:Int))))||(decide (y+dyOf p w≥r.2.2.1))) = !onB r (x+w.1) (y+dyOf p w):=by
      rw[Bool.eq_iff_iff];simp only[Bool.or_eq_true,decide_eq_true_eq,Bool.not_eq_true',onB,decide_eq_false_iff_not];show((x+w.1<0∨x+w.1≥r.width)∨y+dyOf p w<0)∨y+dyOf p w≥r.height↔_;omega
    unfold wayL
    cases hb:onB r (x+w.1) (y+dyOf p w) with
    | false =>
      refine qj ?_;unfold qcj;simp only[hlt,cond_true,wx,wy,hoff,hb,Bool.not_false,cond_false,List.append_nil]
    | true =>
      have hs:=qr0 hr hb;obtain⟨b1,b2,b3,b4⟩:=onB_iff.1 hb;have hmul:=qnS (show 0≤r.width by omega) b3 b4;have w1:w64 ((y+dyOf p w)*r.2.1)=(y+dyOf p w)*r.2.1:=qg (by show _≤(y+dyOf p w)*r.width;omega) (by show(y+dyOf p w)*r.width≤_;omega);have w2:w64 ((y+dyOf p w)*r.2.1+(x+w.1))=sq r (x+w.1) (y+dyOf p w):=qg (by show _≤sq r (x+w.1) (y+dyOf p w);omega) (by show sq r (x+w.1) (y+dyOf p w)≤_;omega);have hat:=qhN (p:=p) hs.1 (by rw[h.cells];exact hs.2);have hlen:=h.cells
      have hstep:qcj w r ((dyOf p w,()),()) p ((out,x,y,k,()),())=(bif cellI p (sq r (x+w.1) (y+dyOf p w))!=0 then some (.inr ((out++(bif takes p w (cellI p (sq r (x+w.1) (y+dyOf p w))) then [sq r (x+w.1) (y+dyOf p w)] else []),()),())) else some (.inl ((out++(bif takes p w (cellI p (sq r (x+w.1) (y+dyOf p w))) then [sq r (x+w.1) (y+dyOf p w)] else []),x+w.1,y+dyOf p w,k+1,()),()))):=by
        unfold qcj
        simp only[hlt,cond_true,wx,wy,hoff,hb,Bool.not_true,cond_false,w1,w2,wk,hat,Option.bind_some,qsS h ⟨hdx,‹_›,‹_›,hm,‹_›⟩,show ∀b,imp b true=true from fun b=>by cases b<;>rfl,qb]
        have hroom:room (out.length+[sq r (x+w.1) (y+dyOf p w)].length) 8=true:=qZ (by simp;omega);cases takes p w (cellI p (sq r (x+w.1) (y+dyOf p w)))
        · simp
        · simp only[cond_true,hroom,qb,Option.bind_some]
      cases hc:(cellI p (sq r (x+w.1) (y+dyOf p w))==0) with
      | true =>
        have hne:(cellI p (sq r (x+w.1) (y+dyOf p w))!=0)=false:=by simp only[bne,hc];rfl
        rw[hne,cond_false] at hstep
        rw[qo hstep,qrE h ⟨hdx,‹_›,‹_›,hm,‹_›⟩ n _ (x+w.1) (y+dyOf p w) (k+1) (by omega) (by omega) (by
          have:(bif takes p w (cellI p (sq r (x+w.1) (y+dyOf p w))) then [sq r (x+w.1) (y+dyOf p w)] else []).length≤1:=by cases takes p w (cellI p (sq r (x+w.1) (y+dyOf p w)))<;>simp
          rw[List.length_append];omega) ⟨b1,b2⟩ ⟨b3,b4⟩]
        simp[List.append_assoc]
      | false =>
        have hne:(cellI p (sq r (x+w.1) (y+dyOf p w))!=0)=true:=by simp only[bne,hc];rfl
        rw[hne,cond_true] at hstep;rw[qj hstep];simp
theorem way_spec {r:Rules} {p:Place} (h:Valid r p) {w:RWay} (hw:WayOk w) {s:Int} (h0:0≤s) (h1:s<r.width*r.height):qkE r p s w=some (wayS r p s w):=by
  have hr:=h.r0;have hd:=qnY hr h0 h1;have:=hr.w8;have:=hr.h8;have:=hr.w1;have:=hr.h1;obtain⟨hdx,hdy,hnz,hm,htk⟩:=id hw;unfold qkE wayS;have hq:(r.2.1 !=0)=true:=bne_t (by show ¬r.width=0;omega);have wdy:(bif (p.2.2.1==(1:Int)) then some (((w64 (0-w.2.1)),()),()) else some ((w.2.1,()),()))=some ((dyOf p w,()),()):=by
    unfold dyOf;by_cases e:p.turn=1
    · rw[if_pos e,beq_t e,cond_true,qg (by omega) (by omega)];simp
    · rw[if_neg e,beq_f e,cond_false]
  have wq:w64 (s.tdiv r.2.1)=s.tdiv r.2.1:=qg (by show _≤s.tdiv r.width;omega) (by show s.tdiv r.width≤_;omega);rw[wdy,Option.bind_some,hq,qb,qb,wq,qrE h hw w.2.2.1.toNat [] _ _ 0 (by omega) (by omega) (by simp) hd.1 hd.2];simp

theorem qmf (x y:Mv):mvLt x y=true↔x.1<y.1∨x.1=y.1∧(x.2.1<y.2.1∨x.2.1=y.2.1∧x.2.2.1<y.2.2.1):=by simp[mvLt]
theorem lt_f (x y:Mv):mvLt x y=false↔¬(x.1<y.1∨x.1=y.1∧(x.2.1<y.2.1∨x.2.1=y.2.1∧x.2.2.1<y.2.2.1)):=by rw[←qmf,Bool.not_eq_true]
theorem mv_eq {x y:Mv} (h1:x.1=y.1) (h2:x.2.1=y.2.1) (h3:x.2.2.1=y.2.2.1):x=y:=by
  obtain⟨a,b,c,⟨⟩⟩:=x;obtain⟨a',b',c',⟨⟩⟩:=y;simp only at h1 h2 h3;subst h1 h2 h3;rfl
theorem mv_beq (x y:Mv):((x.1==y.1)&&((x.2.1==y.2.1)&&((x.2.2.1==y.2.2.1)&&true)))=decide (x=y):=by
  rw[Bool.eq_iff_iff];simp only[Bool.and_eq_true,beq_iff_eq,decide_eq_true_eq,and_true];constructor
  · rintro ⟨h1,h2,h3⟩;exact mv_eq h1 h2 h3
  · rintro rfl;exact⟨rfl,rfl,rfl⟩

def dd1 (a:Mv):List Mv→List Mv
  | []=>[]
  | x::xs=>if x=a then dd1 a xs else x::dd1 x xs
def dd:List Mv→List Mv
  | []=>[]
  | x::xs=>x::dd1 x xs
theorem qnt (y:Mv):∀(l:List Mv) (a:Mv),dd1 a (l++[y])=dd1 a l++(if (a::l).getLast (by simp)=y then [] else [y])
  | [],a=>by simp only[List.nil_append,dd1,List.getLast_singleton];by_cases h:y=a<;>simp[h,eq_comm]
  | x::xs,a=>by
    simp only[List.cons_append,dd1];by_cases h:x=a
    · subst h;rw[if_pos rfl,if_pos rfl,qnt y xs x];congr 2
    · rw[if_neg h,if_neg h,qnt y xs x,List.cons_append];congr 2
theorem dd_snoc {l:List Mv} (hl:l≠[]) (y:Mv):dd (l++[y])=dd l++(if l.getLast hl=y then [] else [y]):=by
  cases l with
  | nil=>exact absurd rfl hl
  | cons x xs=>simp only[List.cons_append,dd,qnt]
theorem qnr (z:Mv):∀(l:List Mv) (a:Mv),z∈a::dd1 a l↔z∈a::l
  | [],a=>by simp[dd1]
  | x::xs,a=>by
    simp only[dd1];by_cases h:x=a
    · subst h;rw[if_pos rfl,qnr z xs x];simp
    · rw[if_neg h,List.mem_cons,qnr z xs x,←List.mem_cons]
theorem dd_mem (z:Mv) (l:List Mv):z∈dd l↔z∈l:=by
  cases l with
  | nil=>simp[dd]
  | cons x xs=>exact qnr z xs x
theorem dd1_lt:∀(l:List Mv) (a:Mv),(a::l).Pairwise (fun x y=>(!mvLt y x)=true)→(a::dd1 a l).Pairwise (fun x y=>mvLt x y=true)
  | [],a,h=>by simp[dd1]
  | x::xs,a,h=>by
    simp only[dd1];rw[List.pairwise_cons] at h;by_cases e:x=a
    · subst e;rw[if_pos rfl];exact dd1_lt xs x h.2
    · rw[if_neg e,List.pairwise_cons];refine⟨fun z hz=>?_,dd1_lt xs x h.2⟩;have hz':=(qnr z xs x).1 hz;have h1:=h.1 x (by simp);have hax:mvLt a x=true:=by
        rw[Bool.not_eq_true',lt_f] at h1;rw[qmf];by_cases c1:a.1=x.1
        · by_cases c2:a.2.1=x.2.1
          · by_cases c3:a.2.2.1=x.2.2.1
            · exact absurd (mv_eq c1 c2 c3).symm e
            · omega
          · omega
        · omega
      rcases List.mem_cons.1 hz' with rfl | hz2
      · exact hax
      · have h2:=(List.pairwise_cons.1 h.2).1 z hz2;rw[Bool.not_eq_true',lt_f] at h2;rw[qmf] at hax ⊢;omega
theorem dd_lt {l:List Mv} (h:l.Pairwise (fun x y=>(!mvLt y x)=true)):(dd l).Pairwise (fun x y=>mvLt x y=true):=by
  cases l with
  | nil=>simp[dd]
  | cons x xs=>exact dd1_lt xs x h
theorem sort_pw (l:List Mv):(qa8 l).Pairwise (fun x y=>(!mvLt y x)=true):=by
  unfold qa8;apply List.pairwise_mergeSort
  · intro a b c h1 h2;rw[Bool.not_eq_true',lt_f] at *;omega
  · intro a b;rw[Bool.or_eq_true,Bool.not_eq_true',Bool.not_eq_true',lt_f,lt_f];omega
theorem sort_mem (z:Mv) (l:List Mv):z∈qa8 l↔z∈l:=(List.mergeSort_perm l _).mem_iff
theorem sort_len (l:List Mv):(qa8 l).length=l.length:=List.length_mergeSort l
theorem lt_irrefl (x:Mv):mvLt x x=false:=by rw[lt_f];omega
theorem qpK:∀ {l m:List Mv},l.Pairwise (fun x y=>mvLt x y=true)→m.Pairwise (fun x y=>mvLt x y=true)→(∀z,z∈l↔z∈m)→l=m
  | [],[],_,_,_=>rfl
  | [],y::m,_,_,h=>by have:=(h y).2 (by simp);simp at this
  | x::l,[],_,_,h=>by have:=(h x).1 (by simp);simp at this
  | x::l,y::m,hl,hm,h=>by
    rw[List.pairwise_cons] at hl hm;have e:x=y:=by
      rcases List.mem_cons.1 ((h x).1 (by simp)) with e | e
      · exact e
      · rcases List.mem_cons.1 ((h y).2 (by simp)) with e2 | e2
        · exact e2.symm
        · have a:=hm.1 x e;have b:=hl.1 y e2;rw[qmf] at a b;omega
    subst e;congr 1;refine qpK hl.2 hm.2 fun z=>⟨fun hz=>?_,fun hz=>?_⟩
    · rcases List.mem_cons.1 ((h z).1 (by simp[hz])) with e | e
      · subst e;have:=hl.1 z hz;rw[lt_irrefl] at this;cases this
      · exact e
    · rcases List.mem_cons.1 ((h z).2 (by simp[hz])) with e | e
      · subst e;have:=hm.1 z hz;rw[lt_irrefl] at this;cases this
      · exact e

abbrev d0:Mv:=((0:Int),((0:Int),((0:Int),())))
theorem qrH {xs:List Mv} {j:Nat} (h:j<xs.length):xs.take (j+1)=xs.take j++[getD' xs j d0]:=by
  rw[List.take_succ_eq_append_getElem h];simp[getD',h]
theorem dd_take {xs:List Mv} {j:Nat} (h:j<xs.length) (hj:1≤j):dd (xs.take (j+1))=dd (xs.take j)++(if getD' xs (j-1) d0=getD' xs j d0 then [] else [getD' xs j d0]):=by
  have hne:xs.take j≠[]:=by
    intro e;have:=congrArg List.length e;rw[List.length_take] at this;simp only[List.length_nil] at this;omega
  rw[qrH h,dd_snoc hne];have:(xs.take j).getLast hne=getD' xs (j-1) d0:=by
    rw[List.getLast_eq_getElem];simp only[List.getElem_take,List.length_take,getD'];rw[List.getD_eq_getElem?_getD,List.getElem?_eq_getElem (by omega)];simp only[Option.getD_some];congr 1;omega
  rw[this]
theorem compact5 (xs:List Mv) (k0:Nat) (hk0:1≤k0) (hk1:k0<xs.length) (hx:xs.length≤1000000) (hd:dd (xs.take (k0+1))=xs.take k0) :
    ∃r,iterW (qga (((k0:Int),()),(xs,()))) (((k0:Int),(1:Int),()),(xs,()))=some r∧(∃k:Nat,r.1.1=(k:Int)∧k≤xs.length∧r.2.1.length=xs.length∧r.2.1.take k=dd xs):=by
  refine qgO (fun x=>∃(k k2:Nat),x.1.1=(k:Int)∧x.1.2.1=(k2:Int)∧1≤k2∧k0+k2≤xs.length∧k0≤k∧k+1≤k0+k2∧x.2.1.length=xs.length∧(∀j,k0+k2≤j+1→getD' x.2.1 j d0=getD' xs j d0)∧x.2.1.take k=dd (xs.take (k0+k2))) (fun x=>xs.length-x.1.2.1.toNat) _ ?_ _ ⟨k0,1,rfl,rfl,by omega,by omega,by omega,by omega,rfl,fun _ _=>rfl,by rw[hd]⟩
  rintro ⟨⟨k,k2,⟨⟩⟩,ys,⟨⟩⟩ ⟨K,K2,e1,e2,h1,h2,h3,h4,h5,h6,h7⟩
  simp only at e1 e2 h5 h6 h7;subst e1 e2;unfold qga;simp only[Int.toNat_natCast];by_cases hlt:K2<xs.length-k0
  · left
    have c1:decide ((K2:Int)<((xs.length-k0:Nat):Int))=true:=by simp;omega
    have c2:inb (K2:Int) (xs.length-k0)=true:=inb_iff.2 ⟨by omega,by omega⟩
    have w1:w64 ((K2:Int)-1)=((K2-1:Nat):Int):=by rw[qg (by omega) (by omega)];omega
    have c3:inb ((K2-1:Nat):Int) (xs.length-k0)=true:=inb_iff.2 ⟨by omega,by omega⟩
    have w2:w64 ((K2:Int)+1)=((K2+1:Nat):Int):=by rw[qg (by omega) (by omega)];omega
    have w3:w64 ((K:Int)+1)=((K+1:Nat):Int):=by rw[qg (by omega) (by omega)];omega
    have c4:inb (K:Int) ys.length=true:=inb_iff.2 ⟨by omega,by omega⟩;have g1:getD' ys (k0+K2) d0=getD' xs (k0+K2) d0:=h6 _ (by omega);have g2:getD' ys (k0+(K2-1)) d0=getD' xs (k0+(K2-1)) d0:=h6 _ (by omega);have hdd:=dd_take (xs:=xs) (j:=k0+K2) (by omega) (by omega);simp only[c1,cond_true,c2,qb,w1,Int.toNat_natCast,c3,w2,w3,c4,mv_beq,g1,g2];by_cases he:getD' xs (k0+K2) d0=getD' xs (k0+(K2-1)) d0
    · refine⟨(((K:Int),((K2+1:Nat):Int),()),(ys,())),by simp[he],⟨K,K2+1,rfl,rfl,by omega,by omega,by omega,by omega,h5,fun j hj=>h6 j (by omega),?_⟩,by simp;omega⟩;rw[show k0+(K2+1)=k0+K2+1 by omega,hdd,if_pos (by rw[he];congr 1;omega),List.append_nil];exact h7
    · refine⟨((((K+1:Nat):Int),((K2+1:Nat):Int),()),(ys.set K (getD' xs (k0+K2) d0),())),by simp[he],⟨K+1,K2+1,rfl,rfl,by omega,by omega,by omega,by omega,by simp[h5],fun j hj=>?_,?_⟩,by simp;omega⟩
      · rw[←h6 j (by omega)];simp only[getD'];simp only[List.getD_eq_getElem?_getD];rw[List.getElem?_set_ne (by omega)]
      · rw[show k0+(K2+1)=k0+K2+1 by omega,hdd,if_neg (by intro e;apply he;rw[←e];congr 1;omega),←h7];rw[List.take_succ_eq_append_getElem (by simp;omega)];simp[List.take_set_of_le]
  · right
    have c1:decide ((K2:Int)<((xs.length-k0:Nat):Int))=false:=by simp;omega
    refine⟨(((K:Int),()),(ys,())),by simp only[c1,cond_false],K,rfl,by omega,h5,?_⟩;rw[h7,show k0+K2=xs.length by omega,List.take_length]
theorem compact4 (xs:List Mv) (hx:xs.length≤1000000) (h2:2≤xs.length) :
    (Option.bind (α:=((Unit)×((List Mv)×Unit)) ⊕ (((List Mv)×Unit)×(Unit))) (iterW qek (((1:Int),()),(xs,()))) (Sum.elim (fun x23=>some ((x23.2.1,()),())) some))=some ((dd xs,()),()):=by
  obtain⟨r,hr,hq⟩:=qgO (f:=qek) (fun x=>∃k:Nat,x=(((k:Int),()),(xs,()))∧1≤k∧k≤xs.length∧dd (xs.take k)=xs.take k) (fun x=>xs.length-x.1.1.toNat) (fun r=>r = .inl ((),(xs,()))∧dd xs=xs∨r = .inr ((dd xs,()),())) (by
    rintro x ⟨k,rfl,h1,h3,h4⟩
    unfold qek;simp only[Int.toNat_natCast];by_cases hlt:k<xs.length
    · have c1:decide ((k:Int)<((xs.length:Nat):Int))=true:=by simp;omega
      have c2:inb (k:Int) xs.length=true:=inb_iff.2 ⟨by omega,by omega⟩
      have w1:w64 ((k:Int)-1)=((k-1:Nat):Int):=by rw[qg (by omega) (by omega)];omega
      have c3:inb ((k-1:Nat):Int) xs.length=true:=inb_iff.2 ⟨by omega,by omega⟩
      have w2:w64 ((k:Int)+1)=((k+1:Nat):Int):=by rw[qg (by omega) (by omega)];omega
      have c4:qm (k:Int) ((xs.length:Nat):Int) xs.length=true:=by simp[qm];omega
      have hdd:=dd_take hlt h1;simp only[c1,cond_true,c2,qb,w1,Int.toNat_natCast,c3,c4,mv_beq];by_cases he:getD' xs k d0=getD' xs (k-1) d0
      · right;rw[if_pos he.symm,List.append_nil,h4] at hdd;obtain⟨r,hr,K,e1,e2,e3,e4⟩:=compact5 xs k h1 hlt hx hdd;obtain⟨⟨k',⟨⟩⟩,ys,⟨⟩⟩:=r;simp only at e1 e3 e4;subst e1;refine⟨.inr ((dd xs,()),()),?_,.inr rfl⟩;rw[hr]
        have c5:qm (K:Int) ((ys.length:Nat):Int) ys.length=true:=by simp[qm];omega
        have c6:∀l:List Mv,K≤l.length→qm 0 (K:Int) l.length=true:=fun l hl=>by simp[qm];omega
        simp only[he,decide_true,cond_true,Option.bind_some,c5,qb,Int.toNat_natCast];rw[c6 _ (by simp;omega),qb,Option.bind_some,Sum.elim_inr,List.take_append_of_le_length (by simp;omega),List.take_take,Nat.min_self,e4]
      · left;refine⟨((((k+1:Nat):Int),()),(xs,())),?_,⟨k+1,rfl,by omega,by omega,?_⟩,by simp;omega⟩
        · simp only[he,decide_false,cond_false,Option.bind_some,Sum.elim_inl,w2]
        · rw[hdd,if_neg (fun e=>he e.symm),h4,←qrH hlt]
    · right
      have c1:decide ((k:Int)<((xs.length:Nat):Int))=false:=by simp;omega
      refine⟨.inl ((),(xs,())),by simp only[c1,cond_false],.inl ⟨rfl,?_⟩⟩
      have:k=xs.length:=by omega
      rw[this,List.take_length] at h4
      exact h4) (((1:Int),()),(xs,())) ⟨1,rfl,by omega,by omega,by
        cases xs with
        | nil=>rfl
        | cons x l=>rfl⟩
  rw[hr];rcases hq with ⟨rfl,e⟩ | rfl
  · rw[e];rfl
  · rfl

def qbL (p:Place):List Int:=getD' [p.2.1.1,p.2.1.2.1] (p.2.2.1).toNat []
theorem qjb {r:Rules} {p:Place} (h:Valid r p):qbL p=if p.turn=0 then p.h0 else p.h1:=by
  unfold qbL;rcases h.turn with e | e
  · rw[if_pos e,show p.2.2.1=0 from e];rfl
  · rw[if_neg (by omega),show p.2.2.1=1 from e];rfl
theorem qkD {r:Rules} {p:Place} (h:Valid r p):(qbL p).length=r.pieces.length:=by
  rw[qjb h];split
  · exact h.l0
  · exact h.l1
theorem qrJ {r:Rules} {p:Place} (h:Valid r p):∀c∈qbL p,0≤c∧c≤1000:=by
  rw[qjb h];split
  · exact h.hand0
  · exact h.hand1
def handI (p:Place) (k:Int):Int:=(qbL p).getD k.toNat 0
theorem at_hand {p:Place} {k:Int} (h0:0≤k) (h1:k<(((qbL p).length:Nat):Int)):at? (getD' [p.2.1.1,p.2.1.2.1] (p.2.2.1).toNat []) k=some (handI p k):=by
  show at? (qbL p) k=_;rw[at?_eq _ k h0 h1];unfold handI;rw[List.getD_eq_getElem?_getD,List.getElem?_eq_getElem (by omega)];rfl
def colF (p:Place) (W x0:Int):Nat→Bool
  | 0=>true
  | y+1=>colF p W x0 y&&(cellI p (x0+(y:Int)*W)!=0)
def qhS (r:Rules) (p:Place) (s:Int):Bool:=colF p r.width (s.tmod r.width) (s.tdiv r.width).toNat
theorem div_eq {W s:Int} (hW:1≤W) (h0:0≤s):s=s.tmod W+((s.tdiv W).toNat:Int)*W:=by
  have h1:=Int.tmod_add_tdiv_mul s W
  have h2:0≤s.tdiv W:=by rw[Int.tdiv_eq_ediv_of_nonneg h0];exact Int.ediv_nonneg h0 (by omega)
  rw[Int.toNat_of_nonneg h2];exact h1.symm
theorem qlQ {r:Rules} {p:Place} (h:Valid r p) {x0:Int} (hx:0≤x0∧x0<r.width):∀(y:Nat),(y:Int)≤r.height →
    (Option.bind (α:=((Unit)×(Unit)) ⊕ Bool) (iterW (qbt p r) ((x0+(y:Int)*r.width-r.width,()),())) (Sum.elim (fun x3=>some true) some))=some (colF p r.width x0 y)
  | 0,hy=>by
    rw[qj (r := .inl ((),())) (by
      unfold qbt
      have:decide (x0+((0:Nat):Int)*r.width-r.width≥0)=false:=by simp;omega
      simp only[this,cond_false])]
    rfl
  | y+1,hy=>by
    have hr:=h.r0;have:=hr.w8;have:=hr.h8;have:=hr.w1;have:=hr.h1;have ha:=hr.area;have hb:onB r x0 (y:Int)=true:=onB_iff.2 ⟨hx.1,hx.2,by omega,by omega⟩;have hs:=qr0 hr hb;have hm:=qnS (show 0≤r.width by omega) (show(0:Int)≤(y:Int) by omega) (show(y:Int)<r.height by omega);have e:x0+((y+1:Nat):Int)*r.width-r.width=x0+(y:Int)*r.width:=by
      rw[show((y+1:Nat):Int)=(y:Int)+1 by omega,Int.add_mul];omega
    rw[e];have hat:=qhN (p:=p) (s:=x0+(y:Int)*r.width) (by omega) (by rw[h.cells];omega)
    have hge:decide (x0+(y:Int)*r.width≥0)=true:=by simp;omega
    cases hc:(cellI p (x0+(y:Int)*r.width)==0) with
    | true =>
      rw[qj (r := .inr false) (by
        unfold qbt
        simp only[hge,cond_true,hat,Option.bind_some,hc])]
      simp[colF,bne,hc]
    | false =>
      rw[qo (y:=((x0+(y:Int)*r.width-r.width,()),())) (by
        unfold qbt;simp only[hge,cond_true,hat,Option.bind_some,hc,cond_false]
        rw[qg (n:=x0+(y:Int)*r.width-r.2.1) (by show _≤x0+(y:Int)*r.width-r.width;omega) (by show x0+(y:Int)*r.width-r.width≤_;omega)]),qlQ h hx y (by omega)]
      simp[colF,bne,hc]
theorem qqA {r:Rules} {p:Place} (h:Valid r p) {s:Int} (h0:0≤s) (h1:s<r.width*r.height):qe7 r p s=some (qhS r p s):=by
  have hr:=h.r0;have:=hr.w8;have:=hr.h8;have:=hr.w1;have:=hr.h1;have ha:=hr.area;have hd:=qnY hr h0 h1;have e:=div_eq hr.w1 h0;unfold qe7 qhS;rw[qg (n:=s-r.2.1) (by show _≤s-r.width;omega) (by show s-r.width≤_;omega)];have:=qlQ h hd.1 (s.tdiv r.width).toNat (by omega);rw[←e] at this;exact this
def putOk (r:Rules) (p:Place) (s:Int):Bool:=(cellI p s==0)&&(!r.falls||qhS r p s)
def qfq (r:Rules) (p:Place) (s:Nat):List Mv:=bif putOk r p (s:Int) then(List.range (qbL p).length).flatMap (fun k:Nat=>bif decide (handI p (k:Int)>0) then [((-1:Int),((s:Int),((k:Int),())))] else []) else []
theorem fm_len1 {A:Type} (n:Nat) (F:Nat→List A) (h:∀k,(F k).length≤1):((List.range n).flatMap F).length≤n:=by
  have:=qa4 F 1 (List.range n) (fun k _=>h k);simpa using this
theorem qjy {r:Rules} {p:Place} (h:Valid r p) (s:Nat):(qfq r p s).length≤6:=by
  unfold qfq;cases putOk r p (s:Int)
  · simp
  · rw[cond_true];refine Nat.le_trans (fm_len1 _ _ fun k=>?_) (by rw[qkD h];exact h.r0.t6)
    cases decide (handI p (k:Int)>0)<;>simp
theorem qbB {r:Rules} {p:Place} (h:Valid r p):p.1.length≤64:=by
  have:=h.cells;have:=h.r0.area;have h1:((p.1.length:Nat):Int)=r.width*r.height:=h.cells;omega
theorem puts_spec {r:Rules} {p:Place} (h:Valid r p):qiX r p=some ((List.range p.1.length).flatMap (qfq r p)):=by
  have hr:=h.r0;have:=hr.w8;have:=hr.h8;have:=hr.w1;have:=hr.h1;have ha:=hr.area;have hlen:((p.1.length:Nat):Int)=r.width*r.height:=h.cells;have h64:=qbB h
  have hh:(qbL p).length≤6:=by rw[qkD h];exact hr.t6
  unfold qiX;rw[qd0 (A:=Mv) p.1.length 6 (qd6 p r) (qfq r p) (fun a=>((a,()),())) [] (fun i _=>qjy h i) (fun i hi a hal=>?_) (fun a=>?_)]
  · simp
  · unfold qd6
    have c1:decide ((i:Int)<((p.1.length:Nat):Int))=true:=by simp;omega
    have hat:=qhN (p:=p) (s:=(i:Int)) (by omega) (by show(i:Int)<((p.1.length:Nat):Int);omega);simp only[c1,cond_true,hat,Option.bind_some];have hf:=qqA h (s:=(i:Int)) (by omega) (by omega);have hfil:(i:Int)<r.width→qhS r p (i:Int)=true:=fun hlt=>by
      unfold qhS;rw[Int.tdiv_eq_ediv_of_nonneg (by omega),Int.ediv_eq_zero_of_lt (by omega) hlt];rfl
    rw[hf]
    have hg:∀b c:Bool,gopt b false (some c)=some (b&&c):=fun b c=>by cases b<;>rfl
    rw[hg,Option.bind_some];have hcond:((cellI p (i:Int)!=(0:Int))||((r.2.2.2.2.2.1&&(decide ((i:Int)≥r.2.1)))&&(!(((r.2.2.2.2.2.1&&(decide ((i:Int)≥r.2.1)))&&(!(cellI p (i:Int)!=(0:Int))))&&qhS r p (i:Int))))) = !putOk r p (i:Int):=by
      unfold putOk;rw[show r.2.2.2.2.2.1=r.falls from rfl];by_cases hlt:(i:Int)<r.width
      · rw[hfil hlt,show decide ((i:Int)≥r.2.1)=false by simp;exact hlt];simp only[bne]
        cases (cellI p (i:Int)==0)<;>cases r.falls<;>rfl
      · rw[show decide ((i:Int)≥r.2.1)=true by simp;show r.width≤(i:Int);omega];simp only[bne]
        cases (cellI p (i:Int)==0)<;>cases r.falls<;>cases qhS r p (i:Int)<;>rfl
    rw[hcond,qg (n:=(i:Int)+1) (by omega) (by omega)];unfold qfq
    cases hp:putOk r p (i:Int) with
    | false=>simp
    | true =>
      have hin:inb p.2.2.1 2=true:=inb_iff.2 (by have:=h.turn;show 0≤p.turn∧p.turn<((2:Nat):Int);omega);simp only[Bool.not_true,cond_false,cond_true,hin,qb]
      rw[qd0 (A:=Mv) (qbL p).length 1 (qd2 p ((a,(i:Int),()),())) (fun k=>bif decide (handI p (k:Int)>0) then [((-1:Int),((i:Int),((k:Int),())))] else []) (fun a=>((a,()),())) a (fun k _=>by cases decide (handI p (k:Int)>0)<;>simp) (fun k hk a2 ha2=>?_) (fun a2=>?_)]
      · rfl
      · unfold qd2;have c2:decide ((k:Int)<(((getD' [p.2.1.1,p.2.1.2.1] (p.2.2.1).toNat []).length:Nat):Int))=true:=by
          have:k<(getD' [p.2.1.1,p.2.1.2.1] (p.2.2.1).toNat []).length:=hk;simp;exact this
        have hat2:=at_hand (p:=p) (k:=(k:Int)) (by omega) (by omega);simp only[c2,cond_true,hat2,Option.bind_some];rw[qg (n:=(k:Int)+1) (by omega) (by omega)];cases decide (handI p (k:Int)>0)
        · simp
        · have hroom:room (a2.length+[((-1:Int),((i:Int),((k:Int),())))].length) 24=true:=qZ (by
            simp only[List.length_singleton,List.length_nil] at *;have:i*6≤64*6:=Nat.mul_le_mul_right _ (by omega)
            omega)
          simp only[cond_true,hroom,qb,Option.bind_some]
      · unfold qd2;have c2:decide ((((qbL p).length:Nat):Int)<(((getD' [p.2.1.1,p.2.1.2.1] (p.2.2.1).toNat []).length:Nat):Int))=false:=by
          show decide ((((qbL p).length:Nat):Int)<(((qbL p).length:Nat):Int))=false;simp
        simp only[c2,cond_false]
  · unfold qd6;simp

def lastB (r:Rules) (pl t:Int):Bool:=bif pl==0 then t.tdiv r.width==r.height-1 else t.tdiv r.width==0
theorem qlG {r:Rules} (hr:VR0 r) (pl:Int) {t:Int} (h0:0≤t) (h1:t<r.width*r.height):qdv r pl t=some (lastB r pl t):=by
  have:=hr.w8;have:=hr.h8;have:=hr.w1;have:=hr.h1;have hd:=qnY hr h0 h1;have hq:(r.2.1 !=0)=true:=bne_t (by show ¬r.width=0;omega);have w1:w64 (t.tdiv r.2.1)=t.tdiv r.width:=qg (by show _≤t.tdiv r.width;omega) (by show t.tdiv r.width≤_;omega);have w2:w64 (r.2.2.1-1)=r.height-1:=qg (by show _≤r.height-1;omega) (by show r.height-1≤_;omega);unfold qdv lastB;rw[hq,qb,qb,w1,w2];exact qbw _ _ _
def qbx (r:Rules) (k:Int):Piece:=r.pieces.getD k.toNat (0,0,0,[],())
theorem qnO {r:Rules} {k:Int} (h0:0≤k) (h1:k<((r.pieces.length:Nat):Int)):at? r.2.2.2.1 k=some (qbx r k)∧qbx r k∈r.pieces:=by
  have h1':k<((r.2.2.2.1.length:Nat):Int):=h1;rw[at?_eq r.2.2.2.1 k h0 h1];unfold qbx;rw[List.getD_eq_getElem?_getD,List.getElem?_eq_getElem (by show k.toNat<r.2.2.2.1.length;omega)];exact⟨rfl,List.getElem_mem _⟩
def qa7 (c:Int):Int:=(c-1).tdiv 2
theorem qiK {r:Rules} {p:Place} (h:Valid r p) {s:Int} (hm:cellI p s>0):w64 ((w64 (cellI p s-1)).tdiv 2)=qa7 (cellI p s)∧0≤qa7 (cellI p s)∧qa7 (cellI p s)<((r.pieces.length:Nat):Int):=by
  have hc:=qrS h s;have ht:=h.r0.t6;rw[qg (n:=cellI p s-1) (by omega) (by omega)];unfold qa7;rw[Int.tdiv_eq_ediv_of_nonneg (by omega)];refine⟨qg (by omega) (by omega),by omega,by omega⟩
def becomes (r:Rules) (p:Place) (k t:Int):Int:=bif decide ((qbx r k).2.2.1>0)&&lastB r p.turn t then(qbx r k).2.2.1-1 else k
def goAt (r:Rules) (p:Place) (s:Nat):List Mv:=bif mineB p (cellI p (s:Int)) then(qbx r (qa7 (cellI p (s:Int)))).2.2.2.1.flatMap (fun w=>(wayS r p (s:Int) w).map fun t=>((s:Int),(t,(becomes r p (qa7 (cellI p (s:Int))) t,())))) else []
theorem qh7 {A C:Type} (l:List C) (F:C→List A) (d:C):(List.range l.length).flatMap (fun i=>F (l.getD i d))=l.flatMap F:=by
  induction l with
  | nil=>rfl
  | cons x l ih =>
    rw[List.length_cons,List.range_succ_eq_map,List.flatMap_cons,List.flatMap_cons,List.flatMap_map]
    have e:(fun a=>F ((x::l).getD a.succ d))=fun i=>F (l.getD i d):=by funext i;simp
    rw[e,ih];rfl
theorem map_range {A C:Type} (l:List C) (F:C→A) (d:C):(List.range l.length).flatMap (fun i=>[F (l.getD i d)])=l.map F:=by
  rw[qh7 l (fun x=>[F x]) d]
  induction l with
  | nil=>rfl
  | cons x l ih=>rw[List.flatMap_cons,List.map_cons,ih];rfl
theorem qqV {r:Rules} {p:Place} {s:Int} {w:RWay} (hw:WayOk w):(wayS r p s w).length≤7:=by
  obtain⟨_,_,_,h4,_⟩:=hw;exact Nat.le_trans (qrQ _ _ _ _ _ _) (by omega)
theorem qrR {r:Rules} {p:Place} (h:Valid r p) (s:Nat):(goAt r p s).length≤112:=by
  unfold goAt
  cases hm:mineB p (cellI p (s:Int)) with
  | false=>simp
  | true =>
    have hc:cellI p (s:Int)>0:=by unfold mineB at hm;simp at hm;exact hm.1
    have hk:=qiK h hc;have hmem:=(qnO (r:=r) hk.2.1 hk.2.2).2;rw[cond_true];refine Nat.le_trans (qa4 _ 7 _ fun w hw=>?_) ?_
    · rw[List.length_map];exact qqV (h.wayOk hmem hw)
    · have:=h.r0.ways _ hmem;omega
def qcs (r:Rules) (p:Place):List Mv:=(List.range p.1.length).flatMap (qfq r p)++(List.range p.1.length).flatMap (goAt r p)
theorem list_raw {r:Rules} {p:Place} (h:Valid r p):iterW (qcB p r) (((List.range p.1.length).flatMap (qfq r p),(0:Int),()),())=some ((qcs r p,()),()):=by
  have hr:=h.r0;have:=hr.w8;have:=hr.h8;have:=hr.w1;have:=hr.h1;have ha:=hr.area;have hlen:((p.1.length:Nat):Int)=r.width*r.height:=h.cells;have h64:=qbB h;have hpl:((List.range p.1.length).flatMap (qfq r p)).length≤64*6:=by
    refine Nat.le_trans (qa4 _ 6 _ fun i _=>qjy h i) ?_;rw[List.length_range];exact Nat.mul_le_mul_right _ h64
  unfold qcs;generalize (List.range p.1.length).flatMap (qfq r p)=pl at hpl;refine qd0 (A:=Mv) p.1.length 112 (qcB p r) (goAt r p) (fun a=>((a,()),())) pl (fun i _=>qrR h i) (fun i hi a hal=>?_) (fun a=>?_)
  · have hal2:a.length≤64*6+64*112:=by
      have:i*112≤64*112:=Nat.mul_le_mul_right _ (by omega);omega
    unfold qcB
    have c1:decide ((i:Int)<((p.1.length:Nat):Int))=true:=by simp;omega
    have hat:=qhN (p:=p) (s:=(i:Int)) (by omega) (by show(i:Int)<((p.1.length:Nat):Int);omega);have hc:=qjp h (i:Int)
    have hi2:(i:Int)<r.width*r.height:=by omega
    simp only[c1,cond_true,hat,Option.bind_some,show ∀b,imp b true=true from fun b=>by cases b<;>rfl,qb]
    have hcond:((cellI p (i:Int)==(0:Int))||(((w64 (cellI p (i:Int)-(1:Int))).tmod (2:Int))!=p.2.2.1)) = !mineB p (cellI p (i:Int)):=by
      rw[qg (n:=cellI p (i:Int)-1) (by omega) (by omega)];unfold mineB;rw[show p.turn=p.2.2.1 from rfl];by_cases hz:cellI p (i:Int)=0
      · simp[hz]
      · rw[beq_f hz,show decide (cellI p (i:Int)>0)=true by simp;omega];simp[bne]
    rw[hcond,qg (n:=(i:Int)+1) (by omega) (by omega)];unfold goAt
    cases hm:mineB p (cellI p (i:Int)) with
    | false=>simp
    | true =>
      have hcp:cellI p (i:Int)>0:=by unfold mineB at hm;simp at hm;exact hm.1
      have hk:=qiK h hcp;obtain⟨hpa,hmem⟩:=qnO (r:=r) hk.2.1 hk.2.2;simp only[Bool.not_true,cond_false,hk.1,hpa,Option.bind_some,cond_true];generalize hK:qa7 (cellI p (i:Int))=K at *;have hways:=h.r0.ways _ hmem;have hWl:(qbx r K).2.2.2.1.length≤16:=hways;rw[qd0 (A:=Mv) (qbx r K).2.2.2.1.length 7 (qd7 (qbx r K) r p ((a,(i:Int),()),()) (cellI p (i:Int))) (fun j=>(wayS r p (i:Int) ((qbx r K).2.2.2.1.getD j (0,0,0,0,()))).map fun t=>((i:Int),(t,(becomes r p K t,())))) (fun a=>((a,()),())) a (fun j hj=>?_) (fun j hj a2 ha2=>?_) (fun a2=>?_)]
      · rw[qh7 (qbx r K).2.2.2.1 (fun w=>(wayS r p (i:Int) w).map fun t=>((i:Int),(t,(becomes r p K t,())))) (0,0,0,0,())];rfl
      · rw[List.length_map,List.getD_eq_getElem?_getD,List.getElem?_eq_getElem hj];exact qqV (h.wayOk hmem (List.getElem_mem hj))
      · have ha22:a2.length≤64*6+64*112+112:=by
          have:j*7≤16*7:=Nat.mul_le_mul_right _ (by omega);omega
        unfold qd7
        have c2:decide ((j:Int)<(((qbx r K).2.2.2.1.length:Nat):Int))=true:=by simp;omega
        have hatw:at? (qbx r K).2.2.2.1 (j:Int)=some ((qbx r K).2.2.2.1.getD j (0,0,0,0,())):=by
          rw[at?_eq _ _ (by omega) (by omega),List.getD_eq_getElem?_getD,List.getElem?_eq_getElem hj];rfl
        have hwm:(qbx r K).2.2.2.1.getD j (0,0,0,0,())∈(qbx r K).2.2.2.1:=by
          rw[List.getD_eq_getElem?_getD,List.getElem?_eq_getElem hj];exact List.getElem_mem hj
        have hwo:=h.wayOk hmem hwm;simp only[c2,cond_true,hatw,Option.bind_some];generalize (qbx r K).2.2.2.1.getD j (0,0,0,0,())=w at *;rw[way_spec h hwo (by omega) hi2,Option.bind_some];have hwl:=qqV (r:=r) (p:=p) (s:=(i:Int)) hwo;have hwr:∀t∈wayS r p (i:Int) w,0≤t∧t<r.width*r.height:=fun t ht=>qlU hr ht;generalize wayS r p (i:Int) w=T at *;rw[qd0 (A:=Mv) T.length 1 (qeh T r (cellI p (i:Int)) p ((a,(i:Int),()),())) (fun t=>[((i:Int),(T.getD t 0,(becomes r p K (T.getD t 0),())))]) (fun a=>((a,()),())) a2 (fun _ _=>by simp) (fun t ht a3 ha3=>?_) (fun a3=>?_)]
        · rw[map_range T (fun t=>((i:Int),(t,(becomes r p K t,())))) 0];simp only[Option.bind_some];rw[qg (n:=(j:Int)+1) (by omega) (by omega)]
        · unfold qeh
          have c3:decide ((t:Int)<((T.length:Nat):Int))=true:=by simp;omega
          have c4:inb (t:Int) T.length=true:=inb_iff.2 ⟨by omega,by omega⟩;have hg:getD' T t (0:Int)=T.getD t 0:=rfl;have htr:=hwr (T.getD t 0) (by rw[List.getD_eq_getElem?_getD,List.getElem?_eq_getElem ht];exact List.getElem_mem ht);simp only[c3,cond_true,c4,qb,hk.1,hpa,Option.bind_some,Int.toNat_natCast,hg];generalize T.getD t 0=tt at *;rw[qlG hr p.2.2.1 htr.1 htr.2];have hpr:=h.r0.prom _ hmem;have ht6:=h.r0.t6
          have hgo:∀b c:Bool,gopt b false (some c)=some (b&&c):=fun b c=>by cases b<;>rfl
          rw[hgo,Option.bind_some,qg (n:=(qbx r K).2.2.1-1) (by omega) (by omega),qg (n:=(t:Int)+1) (by omega) (by omega)];unfold becomes;rw[show p.turn=p.2.2.1 from rfl];have hroom:room (a3.length+1) 24=true:=qZ (by omega)
          cases decide ((qbx r K).2.2.1>0)<;>cases lastB r p.2.2.1 tt<;>simp[hroom,qb]
        · unfold qeh;simp
      · unfold qd7;simp
  · unfold qcB;simp
theorem raw_len {r:Rules} {p:Place} (h:Valid r p):(qcs r p).length≤10000:=by
  have h64:=qbB h;unfold qcs;rw[List.length_append];have h1:((List.range p.1.length).flatMap (qfq r p)).length≤64*6:=by
    refine Nat.le_trans (qa4 _ 6 _ fun i _=>qjy h i) ?_;rw[List.length_range];exact Nat.mul_le_mul_right _ h64
  have h2:((List.range p.1.length).flatMap (goAt r p)).length≤64*112:=by
    refine Nat.le_trans (qa4 _ 112 _ fun i _=>qrR h i) ?_;rw[List.length_range];exact Nat.mul_le_mul_right _ h64
  omega
theorem list_dd {r:Rules} {p:Place} (h:Valid r p):qat r p=some (dd (qa8 (qcs r p))):=by
  unfold qat;rw[puts_spec h,Option.bind_some,list_raw h,Option.bind_some];have hl:=raw_len h;have hb:Nat.blt (qcs r p).length 4611686018427387904=true:=by
    rw[Nat.blt_eq];omega
  simp only[hb,qb];have hs:=sort_len (qcs r p);generalize qa8 (qcs r p)=xs at hs;by_cases h2:xs.length<2
  · have c:decide (((xs.length:Nat):Int)<2)=true:=by simp;omega
    rw[c,cond_true];have:dd xs=xs:=by
      match xs,h2 with
      | [],_=>rfl
      | [x],_=>rfl
    rw[this];rfl
  · have c:decide (((xs.length:Nat):Int)<2)=false:=by simp;omega
    rw[c,cond_false,compact4 xs (by omega) (by omega)];rfl

def mvOk (r:Rules) (p:Place) (m:Mv):Bool:=decide ((-1≤m.1∧m.1<((p.1.length:Nat):Int))∧(0≤m.2.1∧m.2.1<((p.1.length:Nat):Int))∧(0≤m.2.2.1∧m.2.2.1<((r.pieces.length:Nat):Int)))
def goOk (r:Rules) (p:Place) (m:Mv):Bool:=mineB p (cellI p m.1)&&((becomes r p (qa7 (cellI p m.1)) m.2.1==m.2.2.1)&&(qbx r (qa7 (cellI p m.1))).2.2.2.1.any (fun w=>decide (m.2.1∈wayS r p m.1 w)))
def qv (r:Rules) (p:Place) (m:Mv):Bool:=mvOk r p m&&(bif m.1 == -1 then decide (handI p m.2.2.1>0)&&putOk r p m.2.1 else goOk r p m)
def at3 (r:Rules) (p:Place) (i j k:Nat):List Mv:=bif qv r p ((i:Int)-1,((j:Int),((k:Int),()))) then [((i:Int)-1,((j:Int),((k:Int),())))] else []
def at2 (r:Rules) (p:Place) (i j:Nat):List Mv:=(List.range r.2.2.2.1.length).flatMap (at3 r p i j)
def at1 (r:Rules) (p:Place) (i:Nat):List Mv:=(List.range p.1.length).flatMap (at2 r p i)
def qe8 (r:Rules) (p:Place):List Mv:=(List.range (p.1.length+1)).flatMap (at1 r p)
theorem at3_len (r:Rules) (p:Place) (i j k:Nat):(at3 r p i j k).length≤1:=by unfold at3;cases qv r p ((i:Int)-1,((j:Int),((k:Int),())))<;>simp
theorem at2_len {r:Rules} {p:Place} (h:Valid r p) (i j:Nat):(at2 r p i j).length≤6:=Nat.le_trans (fm_len1 _ _ (at3_len r p i j)) h.r0.t6
theorem at1_len {r:Rules} {p:Place} (h:Valid r p) (i:Nat):(at1 r p i).length≤384:=by
  refine Nat.le_trans (qa4 _ 6 _ fun j _=>at2_len h i j) ?_;have:=qbB h;rw[List.length_range];omega
theorem qnz (n:Nat) (F:Nat→List Mv) (h1:∀i,i<n→(F i).Pairwise (fun x y=>mvLt x y=true)) (h2:∀i j,i<j→∀x∈F i,∀y∈F j,mvLt x y=true):((List.range n).flatMap F).Pairwise (fun x y=>mvLt x y=true):=by
  rw[List.pairwise_flatMap];exact⟨fun i hi=>h1 i (List.mem_range.1 hi),List.pairwise_lt_range.imp fun hij=>h2 _ _ hij⟩
theorem qqy {r:Rules} {p:Place} {i j k:Nat} {x:Mv} (h:x∈at3 r p i j k):x=((i:Int)-1,((j:Int),((k:Int),())))∧qv r p x=true:=by
  unfold at3 at h
  cases hb:qv r p ((i:Int)-1,((j:Int),((k:Int),()))) with
  | false=>simp[hb] at h
  | true =>
    rw[hb,cond_true,List.mem_singleton] at h;rw[h];exact⟨rfl,hb⟩
theorem qqd {r:Rules} {p:Place} {i j:Nat} {x:Mv} (h:x∈at2 r p i j):x.1=(i:Int)-1∧x.2.1=(j:Int)∧qv r p x=true:=by
  obtain⟨k,_,hk⟩:=List.mem_flatMap.1 h;obtain⟨e,h2⟩:=qqy hk;refine⟨by rw[e],by rw[e],h2⟩
theorem qqO {r:Rules} {p:Place} {i:Nat} {x:Mv} (h:x∈at1 r p i):x.1=(i:Int)-1∧qv r p x=true:=by
  obtain⟨j,_,hj⟩:=List.mem_flatMap.1 h;obtain⟨h1,_,h3⟩:=qqd hj;exact⟨h1,h3⟩
theorem qhO {r:Rules} {p:Place} (x:Mv):x∈qe8 r p↔qv r p x=true:=by
  constructor
  · intro h;obtain⟨i,_,hi⟩:=List.mem_flatMap.1 h;exact(qqO hi).2
  · intro h
    have hok:mvOk r p x=true:=by unfold qv at h;simp only[Bool.and_eq_true] at h;exact h.1
    unfold mvOk at hok;rw[decide_eq_true_eq] at hok;obtain⟨⟨a1,a2⟩,⟨b1,b2⟩,c1,c2⟩:=hok;have c2':x.2.2.1<((r.2.2.2.1.length:Nat):Int):=c2;have e:(((((x.1+1).toNat:Nat):Int)-1,(((x.2.1.toNat:Nat):Int),(((x.2.2.1.toNat:Nat):Int),()))):Mv)=x:=mv_eq (by show(((x.1+1).toNat:Nat):Int)-1=x.1;omega) (by show((x.2.1.toNat:Nat):Int)=x.2.1;omega) (by show((x.2.2.1.toNat:Nat):Int)=x.2.2.1;omega);refine List.mem_flatMap.2 ⟨(x.1+1).toNat,List.mem_range.2 (by omega),List.mem_flatMap.2 ⟨x.2.1.toNat,List.mem_range.2 (by omega),List.mem_flatMap.2 ⟨x.2.2.1.toNat,List.mem_range.2 (by omega),?_⟩⟩⟩;unfold at3;rw[e,h,cond_true,List.mem_singleton]
theorem qsj (r:Rules) (p:Place):(qe8 r p).Pairwise (fun x y=>mvLt x y=true):=by
  refine qnz _ _ (fun i _=>qnz _ _ (fun j _=>qnz _ _ (fun k _=>?_) fun k k' hk x hx y hy=>?_) fun j j' hj x hx y hy=>?_) fun i i' hi x hx y hy=>?_
  · unfold at3
    cases qv r p ((i:Int)-1,((j:Int),((k:Int),())))<;>simp
  · obtain⟨ex,_⟩:=qqy hx;obtain⟨ey,_⟩:=qqy hy
    have e1:x.1=(i:Int)-1:=by rw[ex]
    have e2:x.2.1=(j:Int):=by rw[ex]
    have e3:x.2.2.1=(k:Int):=by rw[ex]
    have f1:y.1=(i:Int)-1:=by rw[ey]
    have f2:y.2.1=(j:Int):=by rw[ey]
    have f3:y.2.2.1=(k':Int):=by rw[ey]
    rw[qmf];omega
  · obtain⟨e1,e2,_⟩:=qqd hx;obtain⟨f1,f2,_⟩:=qqd hy;rw[qmf];omega
  · obtain⟨e1,_⟩:=qqO hx;obtain⟨f1,_⟩:=qqO hy;rw[qmf];omega
theorem raw_mem {r:Rules} {p:Place} (h:Valid r p) (x:Mv):x∈qcs r p↔qv r p x=true:=by
  have hr:=h.r0;have hlen:((p.1.length:Nat):Int)=r.width*r.height:=h.cells;have hh:=qkD h;unfold qcs;rw[List.mem_append];constructor
  · rintro (hx | hx)
    · obtain⟨s,hs,hx⟩:=List.mem_flatMap.1 hx;rw[List.mem_range] at hs;unfold qfq at hx
      cases hp:putOk r p (s:Int) with
      | false=>simp[hp] at hx
      | true =>
        rw[hp,cond_true] at hx;obtain⟨k,hk,hx⟩:=List.mem_flatMap.1 hx;rw[List.mem_range] at hk
        cases hd:decide (handI p (k:Int)>0) with
        | false=>simp[hd] at hx
        | true =>
          rw[hd,cond_true,List.mem_singleton] at hx;have hok:mvOk r p x=true:=by
            unfold mvOk;rw[decide_eq_true_eq,hx];simp only;omega
          unfold qv;rw[hok,Bool.true_and,hx];simp only[beq_t rfl,cond_true,hd,hp,Bool.and_self]
    · obtain⟨s,hs,hx⟩:=List.mem_flatMap.1 hx;rw[List.mem_range] at hs;unfold goAt at hx
      cases hm:mineB p (cellI p (s:Int)) with
      | false=>simp[hm] at hx
      | true =>
        have hcp:cellI p (s:Int)>0:=by unfold mineB at hm;simp at hm;exact hm.1
        have hk:=qiK h hcp;obtain⟨hpa,hmem⟩:=qnO (r:=r) hk.2.1 hk.2.2;rw[hm,cond_true] at hx;obtain⟨w,hw,hx⟩:=List.mem_flatMap.1 hx;obtain⟨t,ht,hx⟩:=List.mem_map.1 hx;have htr:0≤t∧t<r.width*r.height:=qlU hr ht;have hpr:=hr.prom _ hmem;have hbr:0≤becomes r p (qa7 (cellI p (s:Int))) t∧becomes r p (qa7 (cellI p (s:Int))) t<((r.pieces.length:Nat):Int):=by
          unfold becomes
          cases hb:(decide ((qbx r (qa7 (cellI p (s:Int)))).2.2.1>0)&&lastB r p.turn t) with
          | false=>exact hk.2
          | true =>
            simp only[Bool.and_eq_true,decide_eq_true_eq] at hb;rw[cond_true];omega
        have hok:mvOk r p x=true:=by
          unfold mvOk;rw[decide_eq_true_eq,←hx];simp only;omega
        unfold qv goOk;rw[hok,Bool.true_and,←hx];simp only;rw[beq_f (by omega),cond_false,hm,Bool.true_and,beq_t rfl,Bool.true_and,List.any_eq_true];exact⟨w,hw,by simpa using ht⟩
  · intro hx;unfold qv at hx;rw[Bool.and_eq_true] at hx;obtain⟨hok,hx⟩:=hx;unfold mvOk at hok;rw[decide_eq_true_eq] at hok;obtain⟨⟨a1,a2⟩,⟨b1,b2⟩,c1,c2⟩:=hok;by_cases hm:x.1 = -1
    · rw[beq_t hm,cond_true,Bool.and_eq_true] at hx;left
      have e1:((x.2.1.toNat:Nat):Int)=x.2.1:=by omega
      have e2:((x.2.2.1.toNat:Nat):Int)=x.2.2.1:=by omega
      refine List.mem_flatMap.2 ⟨x.2.1.toNat,List.mem_range.2 (by omega),?_⟩;unfold qfq;rw[e1,hx.2,cond_true];refine List.mem_flatMap.2 ⟨x.2.2.1.toNat,List.mem_range.2 (by omega),?_⟩;rw[e2,hx.1,cond_true,List.mem_singleton];exact mv_eq hm rfl rfl
    · rw[beq_f hm,cond_false] at hx;unfold goOk at hx;simp only[Bool.and_eq_true,beq_iff_eq,List.any_eq_true,decide_eq_true_eq] at hx;obtain⟨h1,h2,w,hw,ht⟩:=hx;right
      have e1:((x.1.toNat:Nat):Int)=x.1:=by omega
      refine List.mem_flatMap.2 ⟨x.1.toNat,List.mem_range.2 (by omega),?_⟩;unfold goAt;rw[e1,h1,cond_true];refine List.mem_flatMap.2 ⟨w,hw,List.mem_map.2 ⟨x.2.1,ht,?_⟩⟩;exact mv_eq rfl rfl h2
theorem qk9 {r:Rules} {p:Place} (h:Valid r p):qat r p=some (qe8 r p):=by
  rw[list_dd h];congr 1;refine qpK (dd_lt (sort_pw _)) (qsj r p) fun z=>?_;rw[dd_mem,sort_mem,raw_mem h,qhO]

def own (r:Rules) (p:Place) (pl x y:Int):Bool:=onB r x y&&(decide (cellI p (sq r x y)>0)&&((cellI p (sq r x y)-1).tmod 2==pl))
def runB (r:Rules) (p:Place) (pl:Int) (n:Nat) (x y dx dy:Int):Bool:=(List.range n).all fun i=>own r p pl (x+(i:Int)*dx) (y+(i:Int)*dy)
theorem runB_cons (r:Rules) (p:Place) (pl:Int) (n:Nat) (x y dx dy:Int):runB r p pl (n+1) x y dx dy=(own r p pl x y&&runB r p pl n (x+dx) (y+dy) dx dy):=by
  unfold runB;rw[List.range_succ_eq_map,List.all_cons,List.all_map];have e:((fun i:Nat=>own r p pl (x+(i:Int)*dx) (y+(i:Int)*dy))∘Nat.succ)=fun i:Nat=>own r p pl (x+dx+(i:Int)*dx) (y+dy+(i:Int)*dy):=by
    funext i;simp only[Function.comp]
    have e1:x+((i.succ:Nat):Int)*dx=x+dx+(i:Int)*dx:=by rw[show((i.succ:Nat):Int)=(i:Int)+1 by omega,Int.add_mul];omega
    have e2:y+((i.succ:Nat):Int)*dy=y+dy+(i:Int)*dy:=by rw[show((i.succ:Nat):Int)=(i:Int)+1 by omega,Int.add_mul];omega
    rw[e1,e2]
  rw[e];simp
theorem own_on {r:Rules} {p:Place} {pl x y:Int} (h:own r p pl x y=true):onB r x y=true:=by unfold own at h;rw[Bool.and_eq_true] at h;exact h.1
abbrev dX (d:Nat):Int:=getD' [(1:Int),(0:Int),(1:Int),(1:Int)] d 0
abbrev dY (d:Nat):Int:=getD' [(0:Int),(1:Int),(1:Int),(-1:Int)] d 0
def lineB (r:Rules) (p:Place) (pl c:Int):Bool:=(List.range p.1.length).any fun s=>(List.range 4).any fun d=>runB r p pl c.toNat ((s:Int).tmod r.width) ((s:Int).tdiv r.width) (dX d) (dY d)
theorem dX_rng (d:Nat) : -1≤dX d∧dX d≤1:=by
  match d with
  | 0=>decide
  | 1=>decide
  | 2=>decide
  | 3=>decide
  | n+4=>simp[dX,getD']
theorem dY_rng (d:Nat) : -1≤dY d∧dY d≤1:=by
  match d with
  | 0=>decide
  | 1=>decide
  | 2=>decide
  | 3=>decide
  | n+4=>simp[dY,getD']
theorem line3 {r:Rules} {p:Place} (h:Valid r p) {pl c:Int} (d:Nat) (hc:c≤64):∀(m:Nat) (x y n:Int),0≤n→n+m=c→(-1≤x∧x≤8)→(-1≤y∧y≤8) →
    ∃n',iterW (qdQ c r p pl (((d:Int),()),())) ((x,y,n,()),())=some ((n',()),())∧(n'==c)=runB r p pl m x y (dX d) (dY d)
  | 0,x,y,n,h0,hn,hx,hy=>by
    refine⟨n,qj ?_,?_⟩
    · unfold qdQ
      have:decide (n<c)=false:=by simp;omega
      simp only[this,cond_false,Option.bind_some]
    · rw[beq_t (by omega)];rfl
  | m+1,x,y,n,h0,hn,hx,hy=>by
    have hr:=h.r0;have:=hr.w8;have:=hr.h8;have:=hr.w1;have:=hr.h1;have ha:=hr.area
    have hlt:decide (n<c)=true:=by simp;omega
    have hoff:((((decide (x<(0:Int)))||(decide (x≥r.2.1)))||(decide (y<(0:Int))))||(decide (y≥r.2.2.1))) = !onB r x y:=by
      rw[Bool.eq_iff_iff];simp only[Bool.or_eq_true,decide_eq_true_eq,Bool.not_eq_true',onB,decide_eq_false_iff_not];show((x<0∨x≥r.width)∨y<0)∨y≥r.height↔_;omega
    have hown:(bif (decide (n<c)) then(bif ((((decide (x<(0:Int)))||(decide (x≥r.2.1)))||(decide (y<(0:Int))))||(decide (y≥r.2.2.1))) then some ((false,()),())
        else Option.bind (at? p.1 (w64 ((w64 (y*r.2.1))+x))) fun d4 =>
        req (imp (decide (d4>(0:Int))) true) (some ((((decide (d4>(0:Int)))&&(((w64 (d4-(1:Int))).tmod (2:Int))==pl)),()),())))
        else some ((false,()),()))=some ((own r p pl x y,()),()):=by
      rw[hlt,cond_true,hoff];unfold own
      cases hb:onB r x y with
      | false=>rfl
      | true =>
        have hs:=qr0 hr hb;obtain⟨b1,b2,b3,b4⟩:=onB_iff.1 hb;have hmul:=qnS (show 0≤r.width by omega) b3 b4;have w1:w64 (y*r.2.1)=y*r.2.1:=qg (by show _≤y*r.width;omega) (by show y*r.width≤_;omega);have w2:w64 (y*r.2.1+x)=sq r x y:=qg (by show _≤sq r x y;omega) (by show sq r x y≤_;omega);have hcs:=qjp h (sq r x y);rw[w1,w2,qhN (p:=p) hs.1 (by rw[h.cells];exact hs.2)]
        simp only[Bool.not_true,cond_false,Option.bind_some,show ∀b,imp b true=true from fun b=>by cases b<;>rfl,qb,Bool.true_and]
        rw[qg (n:=cellI p (sq r x y)-1) (by omega) (by omega)]
    rw[runB_cons]
    cases ho:own r p pl x y with
    | false =>
      refine⟨n,qj ?_,?_⟩
      · unfold qdQ;rw[hown,ho];rfl
      · rw[beq_f (by omega)];rfl
    | true =>
      obtain⟨b1,b2,b3,b4⟩:=onB_iff.1 (own_on ho);have r1:=dX_rng d;have r2:=dY_rng d;obtain⟨n',e1,e2⟩:=line3 h (pl:=pl) d hc m (x+dX d) (y+dY d) (n+1) (by omega) (by omega) (by omega) (by omega);refine⟨n',?_,by rw[e2];simp⟩
      rw[qo (y:=((x+dX d,y+dY d,n+1,()),())) (by
        unfold qdQ;rw[hown,ho];simp only[Option.bind_some,cond_true,Int.toNat_natCast]
        rw[qg (n:=x+dX d) (by omega) (by omega),qg (n:=y+dY d) (by omega) (by omega),qg (n:=n+1) (by omega) (by omega)])]
      exact e1
theorem line_spec {r:Rules} {p:Place} (h:Valid r p) (pl:Int) {c:Int} (hc1:1≤c) (hc:c≤64):qkJ r p pl c=some (lineB r p pl c):=by
  have hr:=h.r0;have:=hr.w8;have:=hr.h8;have:=hr.w1;have:=hr.h1;have ha:=hr.area;have hlen:((p.1.length:Nat):Int)=r.width*r.height:=h.cells;have hq:(r.2.1 !=0)=true:=bne_t (by show ¬r.width=0;omega);unfold qkJ
  have hL:=qt (List.range p.1.length) (fun s=>(List.range 4).any fun d=>runB r p pl c.toNat ((s:Int).tmod r.width) ((s:Int).tdiv r.width) (dX d) (dY d)) (qfo p r c pl) (.inr true) (.inl ((),())) (fun s hs=>by
    have hs':s<p.1.length:=by simpa using hs
    have hdv:=qnY hr (show(0:Int)≤(s:Int) by omega) (show(s:Int)<r.width*r.height by omega)
    have hL2:=qt (List.range 4) (fun d=>runB r p pl c.toNat ((s:Int).tmod r.width) ((s:Int).tdiv r.width) (dX d) (dY d)) (qe9 r c p pl (((s:Int),()),())) (.inr (.inr (.inr (.inr true)))) (.inl ((),())) (fun d hd=>by
      have hd':d<4:=by simpa using hd
      have w1:w64 ((s:Int).tdiv r.2.1)=(s:Int).tdiv r.width:=qg (by show _≤(s:Int).tdiv r.width;omega) (by show(s:Int).tdiv r.width≤_;omega);obtain⟨n',e1,e2⟩:=line3 h (pl:=pl) (c:=c) d hc c.toNat ((s:Int).tmod r.width) ((s:Int).tdiv r.width) 0 (by omega) (by omega) (by omega) (by omega);unfold qe9;simp only[show decide ((d:Int)<4)=true by simp;omega,cond_true,show inb (d:Int) 4=true from inb_iff.2 ⟨by omega,by omega⟩,qb,hq,w1];rw[show((s:Int).tmod r.2.1)=(s:Int).tmod r.width from rfl,e1,Option.bind_some];simp only[List.getElem_range];rw[←e2,qg (n:=(d:Int)+1) (by omega) (by omega)]
      cases (n'==c)<;>rfl) (by
      unfold qe9
      rfl)
    unfold qfo;simp only[show decide ((s:Int)<((p.1.length:Nat):Int))=true by simp;omega,cond_true,List.getElem_range];rw[hL2,qg (n:=(s:Int)+1) (by omega) (by omega)]
    cases (List.range 4).any (fun d=>runB r p pl c.toNat ((s:Int).tmod r.width) ((s:Int).tdiv r.width) (dX d) (dY d))<;>rfl) (by
    unfold qfo
    simp)
  rw[hL];unfold lineB
  cases (List.range p.1.length).any (fun s=>(List.range 4).any fun d=>runB r p pl c.toNat ((s:Int).tmod r.width) ((s:Int).tdiv r.width) (dX d) (dY d))<;>rfl

def reachB (r:Rules) (p:Place) (x:End) (mover:Int):Bool:=(List.range p.1.length).any fun s=>(cellI p (s:Int)==2*x.2.1+mover+1)&&lastB r mover (s:Int)
def fewOf (p:Place) (x:End) (mover:Int):Int:=((p.1.countP (fun c=>c==2*x.2.1+1-mover+1):Nat):Int)
def metB (r:Rules) (p:Place) (x:End) (mover:Int):Bool:=bif x.1==0 then lineB r p mover x.2.2.1 else bif x.1==1 then reachB r p x mover else decide (fewOf p x mover<x.2.2.1)
structure EndOk (r:Rules) (x:End):Prop where
  kind:0≤x.1∧x.1≤2
  cnt:x.1=0→1≤x.2.2.1∧x.2.2.1≤64
  pc:0≤x.2.1∧x.2.1≤6
theorem Valid.endOk {r:Rules} {p:Place} (h:Valid r p) {x:End} (hx:x∈r.ends):EndOk r x:=by
  obtain⟨h1,h2,h3⟩:=h.r0.ends x hx;have ht:=h.r0.t6;refine⟨h1,fun e=>?_,?_⟩
  · rw[if_neg (by omega)] at h2;exact h2
  · split at h3<;>omega
theorem cell_get (p:Place) (i:Nat) (hi:i<p.1.length):cellI p (i:Int)=p.1[i]:=by
  unfold cellI;rw[List.getD_eq_getElem?_getD,Int.toNat_natCast];simp[hi]
theorem qsR {r:Rules} {p:Place} (h:Valid r p) {x:End} (hx:EndOk r x) {mover:Int} (hm:mover=0∨mover=1):qij r p x mover=some (metB r p x mover):=by
  have hr:=h.r0;have ha:=hr.area;have h64:=qbB h;have hlen:((p.1.length:Nat):Int)=r.width*r.height:=h.cells;have hp:=hx.pc;unfold qij metB;by_cases k0:x.1=0
  · rw[beq_t k0,cond_true,cond_true,line_spec h mover (hx.cnt k0).1 (hx.cnt k0).2];rfl
  · rw[beq_f k0,cond_false,cond_false];by_cases k1:x.1=1
    · rw[beq_t k1,cond_true,cond_true]
      have hL:=qt (List.range p.1.length) (fun s=>(cellI p (s:Int)==2*x.2.1+mover+1)&&lastB r mover (s:Int)) (qeb p x mover r) (.inr (.inr true)) (.inl ((),())) (fun s hs=>by
        have hs':s<p.1.length:=by simpa using hs
        unfold qeb;simp only[show decide ((s:Int)<((p.1.length:Nat):Int))=true by simp;omega,cond_true,List.getElem_range];rw[qhN (p:=p) (s:=(s:Int)) (by omega) (by show(s:Int)<((p.1.length:Nat):Int);omega),Option.bind_some,qlG hr mover (by omega) (by omega)];rw[qg (n:=2*x.2.1) (by omega) (by omega),qg (n:=2*x.2.1+mover) (by omega) (by omega),qg (n:=2*x.2.1+mover+1) (by omega) (by omega),qg (n:=(s:Int)+1) (by omega) (by omega)]
        cases (cellI p (s:Int)==2*x.2.1+mover+1)<;>cases lastB r mover (s:Int)<;>rfl) (by
        unfold qeb
        simp)
      rw[hL];unfold reachB
      cases (List.range p.1.length).any (fun s=>(cellI p (s:Int)==2*x.2.1+mover+1)&&lastB r mover (s:Int))<;>rfl
    · rw[beq_f k1,cond_false,cond_false,Option.bind_some,Sum.elim_inl]
      have hL:=qju p.1 (fun c=>c==2*x.2.1+1-mover+1) (qec p x mover) (fun c=>((c,()),())) (fun i hi c c0 ci=>by
        unfold qec;simp only[show decide ((i:Int)<((p.1.length:Nat):Int))=true by simp;omega,cond_true];rw[qhN (p:=p) (s:=(i:Int)) (by omega) (by show(i:Int)<((p.1.length:Nat):Int);omega),Option.bind_some,cell_get p i hi];rw[qg (n:=2*x.2.1) (by omega) (by omega),qg (n:=2*x.2.1+1) (by omega) (by omega),qg (n:=2*x.2.1+1-mover) (by omega) (by omega),qg (n:=2*x.2.1+1-mover+1) (by omega) (by omega),qg (n:=(i:Int)+1) (by omega) (by omega),qg (n:=c+1) (by omega) (by omega)];cases (p.1[i]==2*x.2.1+1-mover+1)<;>rfl) (fun c=>by
        unfold qec
        simp)
      rw[hL];rfl
def endE (r:Rules) (p:Place) (i:Nat):Option (((Unit)×(Unit)) ⊕ Int):=match r.2.2.2.2.2.2.2.1[i]? with
  | some x=>bif metB r p x (1-p.turn) then some (.inr (bif x.2.2.2.1 then 1+p.turn else 1+(1-p.turn))) else none
  | none=>none
def qrT (r:Rules) (p:Place):Int:=bif r.blocked==0 then 1+(1-p.turn) else bif r.blocked==1 then 1+p.turn else 3
def qcx (r:Rules) (p:Place):Int:=match scan (endE r p) (.inl ((),())) 0 r.2.2.2.2.2.2.2.1.length with
  | .inl _=>bif (r.quiet !=0)&&decide (p.quiet≥r.quiet) then 3 else bif decide ((((qe8 r p).length:Nat):Int)>0) then 0 else qrT r p
  | .inr v=>v
theorem turn_w {r:Rules} {p:Place} (h:Valid r p):w64 ((1:Int)-p.2.2.1)=1-p.turn∧w64 ((1:Int)+p.2.2.1)=1+p.turn∧w64 (1+(1-p.turn))=1+(1-p.turn)∧w64 (1+p.turn)=1+p.turn:=by
  have ht:=h.turn;refine⟨qg (by show _≤1-p.turn;omega) (by show 1-p.turn≤_;omega),qg (by show _≤1+p.turn;omega) (by show 1+p.turn≤_;omega),qg (by omega) (by omega),qg (by omega) (by omega)⟩
theorem qk6 {r:Rules} {p:Place} (h:Valid r p):qdl r p=some (qcx r p):=by
  have ht:=h.turn;obtain⟨t1,t2,t3,t4⟩:=turn_w h;have h6:r.2.2.2.2.2.2.2.1.length≤6:=h.r0.ends6;unfold qdl qcx
  have hL:=qmQ r.2.2.2.2.2.2.2.1.length (qdc r p) (endE r p) (.inl ((),())) (fun i hi=>by
    unfold qdc endE;rw[List.getElem?_eq_getElem hi];simp only[show decide ((i:Int)<((r.2.2.2.2.2.2.2.1.length:Nat):Int))=true by simp;omega,cond_true];rw[at?_eq r.2.2.2.2.2.2.2.1 (i:Int) (by omega) (by omega),Option.bind_some,t1];simp only[Int.toNat_natCast];rw[qsR h (h.endOk (List.getElem_mem hi)) (by omega),Option.bind_some];cases metB r p r.2.2.2.2.2.2.2.1[i] (1-p.turn)
    · simp only[cond_false];rw[qg (n:=(i:Int)+1) (by omega) (by omega)];rfl
    · simp only[cond_true,show decide ((i:Int)≥0)=true by simp,Option.bind_some];unfold qca;rw[t3,show p.2.2.1=p.turn from rfl,t4]
      cases (r.2.2.2.2.2.2.2.1[i]).2.2.2.1<;>rfl) (by
    unfold qdc
    simp)
  rw[hL,Option.bind_some]
  cases scan (endE r p) (.inl ((),())) 0 r.2.2.2.2.2.2.2.1.length with
  | inr v=>rfl
  | inl u =>
    simp only[Sum.elim_inl];rw[show((r.2.2.2.2.2.2.2.2.2.1 !=(0:Int))&&(decide (p.2.2.2.1≥r.2.2.2.2.2.2.2.2.2.1)))=((r.quiet !=0)&&decide (p.quiet≥r.quiet)) from rfl];cases ((r.quiet !=0)&&decide (p.quiet≥r.quiet))
    · rw[cond_false,cond_false,qk9 h,Option.bind_some];cases decide ((((qe8 r p).length:Nat):Int)>0)
      · rw[cond_false,cond_false,t1];unfold qrT qca;rw[t3,show p.2.2.1=p.turn from rfl,t4,show r.2.2.2.2.2.2.2.2.1=r.blocked from rfl]
        cases (r.blocked==0)<;>cases (r.blocked==1)<;>rfl
      · rfl
    · rfl

def qkZ (p:Place) (m:Mv):Int:=2*m.2.2.1+p.turn+1
def cellsA (p:Place) (m:Mv):List Int:=(bif decide (m.1≥0) then p.1.set m.1.toNat 0 else p.1).set m.2.1.toNat (qkZ p m)
def handD (m:Mv) (h:List Int):List Int:=bif decide (m.1≥0) then h else h.set m.2.2.1.toNat (h.getD m.2.2.1.toNat 0-1)
def handK (r:Rules) (c:Int) (h:List Int):List Int:=bif decide (c>0)&&r.keeps then h.set (qa7 c).toNat (if 1000<h.getD (qa7 c).toNat 0+1 then 1000 else h.getD (qa7 c).toNat 0+1) else h
def handA (r:Rules) (p:Place) (m:Mv) (h:List Int):List Int:=handK r (cellI p m.2.1) (handD m h)
def qmV (p:Place) (m:Mv):Int:=bif decide (cellI p m.2.1>0)||decide (m.1<0) then 0 else if 200<p.quiet+1 then 200 else p.quiet+1
def qly (r:Rules) (p:Place) (m:Mv):Place:=(cellsA p m,((bif p.turn==0 then handA r p m p.2.1.1 else p.2.1.1),(bif p.turn==0 then p.2.1.2.1 else handA r p m p.2.1.2.1),()),1-p.turn,qmV p m,())
theorem copy_spec {r:Rules} {p:Place} (h:Valid r p):qdN p=some p:=by
  have h64:=qbB h;have ht:=h.r0.t6;have a0:p.2.1.1.length=r.pieces.length:=h.l0;have a1:p.2.1.2.1.length=r.pieces.length:=h.l1;unfold qdN;rw[qei p.1 (by omega),qei p.2.1.1 (by omega),qei p.2.1.2.1 (by omega)];simp only[Option.bind_some,agree_self]
theorem qeY {r:Rules} {p:Place} {m:Mv} (ha:qv r p m=true):(-1≤m.1∧m.1<((p.1.length:Nat):Int))∧(0≤m.2.1∧m.2.1<((p.1.length:Nat):Int))∧(0≤m.2.2.1∧m.2.2.1<((r.pieces.length:Nat):Int)):=by
  unfold qv mvOk at ha;rw[Bool.and_eq_true,decide_eq_true_eq] at ha;exact ha.1
theorem qhJ {r:Rules} {p:Place} {m:Mv} (ha:qv r p m=true) (hm:m.1 = -1):handI p m.2.2.1>0∧cellI p m.2.1=0:=by
  unfold qv putOk at ha;rw[beq_t hm,cond_true] at ha;simp only[Bool.and_eq_true,decide_eq_true_eq,beq_iff_eq] at ha;exact⟨ha.2.1,ha.2.2.1⟩
theorem qmc (m:Mv) (h:List Int):(handD m h).length=h.length:=by unfold handD;cases decide (m.1≥0)<;>simp
theorem qoJ (r:Rules) (c:Int) (h:List Int):(handK r c h).length=h.length:=by unfold handK;cases (decide (c>0)&&r.keeps)<;>simp
theorem qkK {l:List Int} {b:Int} (hb:0≤b) (h:∀c∈l,0≤c∧c≤b) (i:Nat):0≤l.getD i 0∧l.getD i 0≤b:=by
  rw[List.getD_eq_getElem?_getD]
  cases e:l[i]? with
  | none=>simp;exact hb
  | some c=>exact h c (List.mem_of_getElem? e)
theorem qoK {r:Rules} {p:Place} {m:Mv} (h:Valid r p) (ha:qv r p m=true):∀c∈handD m (qbL p),0≤c∧c≤1000:=by
  have hr:=qrJ h;unfold handD
  cases hd:decide (m.1≥0) with
  | true=>exact hr
  | false =>
    intro c hc;rw[cond_false] at hc
    have hm:m.1 = -1:=by have:=(qeY ha).1.1;simp at hd;omega
    have hp:=(qhJ ha hm).1;have hg:=qkK (by omega) hr m.2.2.1.toNat;rcases List.mem_or_eq_of_mem_set hc with h1 | h1
    · exact hr c h1
    · unfold handI at hp;omega
theorem handK_rng {r:Rules} {c:Int} {h:List Int} (hh:∀x∈h,0≤x∧x≤1000):∀x∈handK r c h,0≤x∧x≤1000:=by
  unfold handK
  cases (decide (c>0)&&r.keeps) with
  | false=>exact hh
  | true =>
    intro x hx;have hg:=qkK (by omega) hh (qa7 c).toNat;rcases List.mem_or_eq_of_mem_set hx with h1 | h1
    · exact hh x h1
    · rw[h1];split<;>omega
theorem qpv {r:Rules} {p:Place} {m:Mv} (hv:Valid r p) (ha:qv r p m=true) (l:List Int) (hl:l=qbL p) :
    (decide (m.1≥0)=false→inb m.2.2.1 l.length=true∧w64 (getD' l m.2.2.1.toNat 0-1)=l.getD m.2.2.1.toNat 0-1) ∧
    (decide (cellI p m.2.1>0)=true→inb (qa7 (cellI p m.2.1)) (handD m l).length=true∧w64 (getD' (handD m l) (qa7 (cellI p m.2.1)).toNat 0+1)=(handD m l).getD (qa7 (cellI p m.2.1)).toNat 0+1):=by
  subst hl;have hr:=qrJ hv;have hl:=qkD hv;obtain⟨r1,r2,r3⟩:=qeY ha;refine⟨fun _=>⟨inb_iff.2 ⟨r3.1,by rw[hl];exact r3.2⟩,?_⟩,fun hc=>⟨?_,?_⟩⟩
  · have:=qkK (by omega) hr m.2.2.1.toNat;exact qg (by show _≤(qbL p).getD m.2.2.1.toNat 0-1;omega) (by show(qbL p).getD m.2.2.1.toNat 0-1≤_;omega)
  · have hk:=qiK hv (of_decide_eq_true hc);exact inb_iff.2 ⟨hk.2.1,by rw[qmc,hl];exact hk.2.2⟩
  · have:=qkK (by omega) (qoK hv ha) (qa7 (cellI p m.2.1)).toNat;exact qg (by show _≤(handD m (qbL p)).getD (qa7 (cellI p m.2.1)).toNat 0+1;omega) (by show(handD m (qbL p)).getD (qa7 (cellI p m.2.1)).toNat 0+1≤_;omega)
theorem qov {r:Rules} {p:Place} {m:Mv} (h:Valid r p) (ha:qv r p m=true):qw r p m=some (qly r p m):=by
  obtain⟨r1,r2,r3⟩:=qeY ha;have ht6:=h.r0.t6;have hq:=h.quiet;have htn:=h.turn;have h64:=qbB h;have hto:inb m.2.1 p.1.length=true:=inb_iff.2 r2;have wv:w64 (w64 (w64 (2*m.2.2.1)+p.2.2.1)+1)=qkZ p m:=by
    unfold qkZ;rw[show p.2.2.1=p.turn from rfl,qg (n:=2*m.2.2.1) (by omega) (by omega),qg (n:=2*m.2.2.1+p.turn) (by omega) (by omega),qg (by omega) (by omega)]
  have wq:w64 (p.2.2.2.1+1)=p.quiet+1:=qg (by show _≤p.quiet+1;omega) (by show p.quiet+1≤_;omega);have wt:w64 (1-p.2.2.1)=1-p.turn:=(turn_w h).1;have hcell:getD' p.1 m.2.1.toNat 0=cellI p m.2.1:=rfl;have hin:inb p.2.2.1 2=true:=inb_iff.2 (by show 0≤p.turn∧p.turn<((2:Nat):Int);omega);have wk:decide (cellI p m.2.1>0)=true→w64 ((w64 (cellI p m.2.1-1)).tdiv 2)=qa7 (cellI p m.2.1):=fun hc=>(qiK h (of_decide_eq_true hc)).1;have hho:qbL p=if p.turn=0 then p.2.1.1 else p.2.1.2.1:=qjb h;have hneg:decide (m.1<0) = !decide (m.1≥0):=by
    rw[Bool.eq_iff_iff];simp only[decide_eq_true_eq,Bool.not_eq_true',decide_eq_false_iff_not];omega
  unfold qw qly;rw[copy_spec h,Option.bind_some];simp only[hcell,hto,qb,wv,wq,wt,hin,hneg];rcases htn with e | e
  · have e':p.2.2.1=0:=e;rw[if_pos e] at hho;obtain⟨k1,k2⟩:=qpv h ha p.2.1.1 hho.symm;simp only[e',e,show((0:Int)==0)=true from rfl,cond_true];unfold handA cellsA qmV handK;simp only[hneg]
    cases hd:decide (m.1≥0) with
    | true =>
      have hf:inb m.1 p.1.length=true:=inb_iff.2 ⟨of_decide_eq_true hd,r1.2⟩
      have hD:handD m p.2.1.1=p.2.1.1:=by unfold handD;rw[hd];rfl
      rw[hD] at k2 ⊢;simp only[cond_true,hf,qb,Option.bind_some,List.length_set,hto]
      cases hc:decide (cellI p m.2.1>0) with
      | false=>rfl
      | true =>
        obtain⟨k3,k4⟩:=k2 hc
        cases hk:r.2.2.2.2.2.2.1 with
        | false=>rw[show r.keeps=false from hk];rfl
        | true =>
          rw[show r.keeps=true from hk];simp only[Bool.true_and,cond_true,wk hc,k3,qb,k4,Option.bind_some];rfl
    | false =>
      obtain⟨k5,k6⟩:=k1 hd
      have hD:handD m p.2.1.1=p.2.1.1.set m.2.2.1.toNat (p.2.1.1.getD m.2.2.1.toNat 0-1):=by unfold handD;rw[hd];rfl
      have hz:decide (cellI p m.2.1>0)=false:=by
        have:=(qhJ ha (by simp at hd;omega)).2;rw[this];rfl
      rw[hD];simp only[cond_false,k5,k6,qb,Option.bind_some,hz,Bool.false_and,hto];rfl
  · have e':p.2.2.1=1:=e;rw[if_neg (by omega)] at hho;obtain⟨k1,k2⟩:=qpv h ha p.2.1.2.1 hho.symm;simp only[e',e,show((1:Int)==0)=false from rfl,cond_false];unfold handA cellsA qmV handK;simp only[hneg]
    cases hd:decide (m.1≥0) with
    | true =>
      have hf:inb m.1 p.1.length=true:=inb_iff.2 ⟨of_decide_eq_true hd,r1.2⟩
      have hD:handD m p.2.1.2.1=p.2.1.2.1:=by unfold handD;rw[hd];rfl
      rw[hD] at k2 ⊢;simp only[cond_true,hf,qb,Option.bind_some,List.length_set,hto]
      cases hc:decide (cellI p m.2.1>0) with
      | false=>rfl
      | true =>
        obtain⟨k3,k4⟩:=k2 hc
        cases hk:r.2.2.2.2.2.2.1 with
        | false=>rw[show r.keeps=false from hk];rfl
        | true =>
          rw[show r.keeps=true from hk];simp only[Bool.true_and,cond_true,wk hc,k3,qb,k4,Option.bind_some];rfl
    | false =>
      obtain⟨k5,k6⟩:=k1 hd
      have hD:handD m p.2.1.2.1=p.2.1.2.1.set m.2.2.1.toNat (p.2.1.2.1.getD m.2.2.1.toNat 0-1):=by unfold handD;rw[hd];rfl
      have hz:decide (cellI p m.2.1>0)=false:=by
        have:=(qhJ ha (by simp at hd;omega)).2;rw[this];rfl
      rw[hD];simp only[cond_false,k5,k6,qb,Option.bind_some,hz,Bool.false_and,hto];rfl
theorem qqG {r:Rules} {p:Place} {m:Mv} (h:Valid r p) (ha:qv r p m=true):Valid r (qly r p m):=by
  obtain⟨r1,r2,r3⟩:=qeY ha;have htn:=h.turn;have hq:=h.quiet;have hK:=handK_rng (r:=r) (c:=cellI p m.2.1) (qoK h ha);have hho:=qjb h;refine⟨h.r0,?_,?_,?_,?_,?_,?_,?_,?_⟩
  · show((((bif decide (m.1≥0) then p.1.set m.1.toNat 0 else p.1).set m.2.1.toNat (qkZ p m)).length:Nat):Int)=_
    have:((bif decide (m.1≥0) then p.1.set m.1.toNat 0 else p.1).set m.2.1.toNat (qkZ p m)).length=p.1.length:=by cases decide (m.1≥0)<;>simp
    rw[this];exact h.cells
  · show(bif p.turn==0 then handA r p m p.2.1.1 else p.2.1.1).length=_;cases (p.turn==0)
    · exact h.l0
    · rw[cond_true];unfold handA;rw[qoJ,qmc];exact h.l0
  · show(bif p.turn==0 then p.2.1.2.1 else handA r p m p.2.1.2.1).length=_;cases (p.turn==0)
    · rw[cond_false];unfold handA;rw[qoJ,qmc];exact h.l1
    · exact h.l1
  · intro c hc;have hc:c∈(bif decide (m.1≥0) then p.1.set m.1.toNat 0 else p.1).set m.2.1.toNat (qkZ p m):=hc;rcases List.mem_or_eq_of_mem_set hc with h1 | h1
    · cases hd:decide (m.1≥0) with
      | false=>rw[hd,cond_false] at h1;exact h.cell c h1
      | true =>
        rw[hd,cond_true] at h1;rcases List.mem_or_eq_of_mem_set h1 with h2 | h2
        · exact h.cell c h2
        · have:=h.r0.t1;omega
    · rw[h1];unfold qkZ;omega
  · intro c hc;have hc:c∈(bif p.turn==0 then handA r p m p.2.1.1 else p.2.1.1):=hc;rcases htn with e | e
    · rw[beq_t e,cond_true] at hc;rw[if_pos e] at hho;have hc:c∈handK r (cellI p m.2.1) (handD m p.h0):=hc;rw[←hho] at hc;exact hK c hc
    · rw[beq_f (by omega),cond_false] at hc;exact h.hand0 c hc
  · intro c hc;have hc:c∈(bif p.turn==0 then p.2.1.2.1 else handA r p m p.2.1.2.1):=hc;rcases htn with e | e
    · rw[beq_t e,cond_true] at hc;exact h.hand1 c hc
    · rw[beq_f (by omega),cond_false] at hc;rw[if_neg (by omega)] at hho;have hc:c∈handK r (cellI p m.2.1) (handD m p.h1):=hc;rw[←hho] at hc;exact hK c hc
  · show 1-p.turn=0∨1-p.turn=1;omega
  · show 0≤qmV p m∧qmV p m≤200;unfold qmV;cases (decide (cellI p m.2.1>0)||decide (m.1<0))
    · rw[cond_false];split<;>omega
    · simp

def qhG (r:Rules):List Int:=r.2.2.2.1.map fun x=>x.2.1
def qbp (r:Rules):Place:=(r.2.2.2.2.1,(qhG r,qhG r,()),0,0,())
theorem qp9 {r:Rules} (h:VR0 r):Valid r (qbp r):=by
  have hh:∀c∈qhG r,0≤c∧c≤1000:=fun c hc=>by
    obtain⟨x,hx,rfl⟩:=List.mem_map.1 hc;have:=h.hand x hx;omega
  have hl:(qhG r).length=r.pieces.length:=by unfold qhG;simp
  exact⟨h,h.start,hl,hl,h.startC,hh,hh,.inl rfl,by show(0:Int)≤0∧(0:Int)≤200;omega⟩
theorem map_take {A B:Type} (l:List A) (f:A→B) (i:Nat) (hi:i<l.length):(l.take (i+1)).map f=(l.take i).map f++[f l[i]]:=by
  rw[List.take_succ_eq_append_getElem hi,List.map_append];rfl
theorem qmR (r:Rules) (hr:Rng qR r):qey r=some (if qu r=0 then(qbp r,0,()) else(([],([],[],()),0,0,()),qu r,())):=by
  unfold qey;rw[qgL r hr,Option.bind_some];by_cases c:qu r=0
  · have h:=qcl c;have hs:((r.2.2.2.2.1.length:Nat):Int)=r.width*r.height:=h.start;have ha:=h.area;have ht:r.2.2.2.1.length≤6:=h.t6;rw[bne_f c,cond_false,if_pos c,qei _ (by omega),Option.bind_some]
    have hL:=qd9 (f:=qb8 r) r.2.2.2.1.length (fun i=>(((i:Int),()),((r.2.2.2.2.1,((r.2.2.2.1.take i).map (fun x=>x.2.1),((r.2.2.2.1.take i).map (fun x=>x.2.1),((0:Int),((0:Int),()))))),()))) ((),((r.2.2.2.2.1,(qhG r,(qhG r,((0:Int),((0:Int),()))))),())) (fun i hi=>by
      unfold qb8;simp only[show decide ((i:Int)<((r.2.2.2.1.length:Nat):Int))=true by simp;omega,cond_true];rw[at?_eq _ _ (by omega) (by omega),Option.bind_some];simp only[Int.toNat_natCast];have hroom:∀z:Int,room (((r.2.2.2.1.take i).map (fun x=>x.2.1)).length+[z].length) 8=true:=fun z=>qZ (by simp;omega);simp only[hroom,qb,agree_self,Option.bind_some];rw[qg (n:=(i:Int)+1) (by omega) (by omega),map_take _ _ i hi]
      rfl) (by
      unfold qb8;simp only[show decide (((r.2.2.2.1.length:Nat):Int)<((r.2.2.2.1.length:Nat):Int))=false by simp,cond_false,List.take_length]
      rfl)
    have hL':iterW (qb8 r) (((0:Int),()),((r.2.2.2.2.1,(([]:List Int),(([]:List Int),((0:Int),((0:Int),()))))),()))=_:=hL;rw[hL',Option.bind_some];rfl
  · rw[bne_t c,cond_true,if_neg c]
theorem qjr (s:List Mv) (v:Mv) (hs:s.length≤1000000000):qn s v=some (decide (v∈s)):=by
  unfold qn qcP
  have hL:=qmQ s.length (qaN s v) (fun i=>if v=s.getD i d0 then some (.inr (i:Int)) else none) (.inl ((),())) (fun i hi=>by
    unfold qaN;simp only[show decide ((i:Int)<((s.length:Nat):Int))=true by simp;omega,cond_true];rw[at?_eq s _ (by omega) (by omega),Option.bind_some,qg (n:=(i:Int)+1) (by omega) (by omega)];simp only[Int.toNat_natCast,List.getD_eq_getElem?_getD,List.getElem?_eq_getElem hi,Option.getD_some,mv_beq];by_cases e:v=s[i]
    · simp[e]
    · simp[e]) (by unfold qaN;simp)
  rw[hL];have key:∀k i,i+k=s.length→(Option.bind (Option.bind (some (scan (fun i=>if v=s.getD i d0 then some (Sum.inr (i:Int)) else none) (Sum.inl ((),())) i k)) (Sum.elim (fun _:Unit×Unit=>some (-1:Int)) some)) fun r2=>some (decide (r2≥(0:Int))))=some (decide (v∈s.drop i)):=by
    intro k
    induction k with
    | zero =>
      intro i hi;rw[show i=s.length by omega,List.drop_length];simp[scan]
    | succ k ih =>
      intro i hi
      have hil:i<s.length:=by omega
      have hmem:(v∈s.drop i)↔v=s[i]∨v∈s.drop (i+1):=by rw[List.drop_eq_getElem_cons hil,List.mem_cons]
      unfold scan
      have hg:s.getD i d0=s[i]:=by simp[List.getD_eq_getElem?_getD,hil]
      by_cases e:v=s[i]
      · rw[decide_eq_true (hmem.2 (.inl e))];simp only[hg,if_pos e,Option.bind_some,Sum.elim_inr];simp
      · simp only[hg,if_neg e];rw[ih (i+1) (by omega)];have h2:(v∈s.drop (i+1))↔v∈s.drop i:=⟨fun h=>hmem.2 (.inr h),fun h=>(hmem.1 h).resolve_left e⟩;simp only[h2]
  have:=key s.length 0 (by omega);simpa using this
theorem qlN {r:Rules} {p:Place} (h:Valid r p):(qe8 r p).length≤100000:=by
  have h64:=qbB h;refine Nat.le_trans (qa4 _ 384 _ fun i _=>at1_len h i) ?_;rw[List.length_range];omega

theorem pl_eta (p:Place):(p.1,((p.2.1.1,(p.2.1.2.1,())),p.2.2))=p:=rfl
theorem gd_eq {A:Type} (xs:List A) (i:Nat) (hi:i<xs.length) (d:A):getD' xs i d=xs[i]:=by simp[getD',hi]
theorem ltd {A:Type} (xs:List A) (i:Nat) (hi:i<xs.length):decide ((i:Int)<((xs.length:Nat):Int))=true:=by simp;omega
theorem nltd {A:Type} (xs:List A):decide (((xs.length:Nat):Int)<((xs.length:Nat):Int))=false:=by simp
theorem inbN {A:Type} (xs:List A) (i:Nat) (hi:i<xs.length):inb (i:Int) xs.length=true:=inb_iff.2 ⟨by omega,by omega⟩
theorem qq0 (a b:List Int) (ha:a.length≤1000000000):qaI a b=some (decide (a=b)):=by
  unfold qaI;by_cases hl:a.length=b.length
  · have e:(((a.length:Nat):Int)!=((b.length:Nat):Int))=false:=bne_f (by omega);rw[e,cond_false]
    have hL:=qt (List.range a.length) (fun i=>a.getD i 0 !=b.getD i 0) (qa1 a b) (.inr false) (.inl ((),())) (fun i hi=>by
      have hi':i<a.length:=by simpa using hi
      unfold qa1;simp only[show decide ((i:Int)<((a.length:Nat):Int))=true by simp;omega,cond_true,List.getElem_range];rw[at?_eq a _ (by omega) (by omega),at?_eq b _ (by omega) (by omega),Option.bind_some,Option.bind_some,qg (n:=(i:Int)+1) (by omega) (by omega)];simp only[Int.toNat_natCast,List.getD_eq_getElem?_getD,List.getElem?_eq_getElem hi',List.getElem?_eq_getElem (show i<b.length by omega),Option.getD_some]
      cases (a[i]!=b[i])<;>rfl) (by unfold qa1;simp)
    rw[hL]
    cases hany:(List.range a.length).any (fun i=>a.getD i 0 !=b.getD i 0) with
    | true =>
      rw[List.any_eq_true] at hany;obtain⟨i,_,h⟩:=hany
      have:¬a=b:=fun e=>by subst e;simp at h
      simp[this]
    | false =>
      rw[List.any_eq_false] at hany;have:a=b:=by
        apply List.ext_getElem hl;intro i h1 h2;have:=hany i (List.mem_range.2 h1);simpa[List.getD_eq_getElem?_getD,h1,h2] using this
      simp[this]
  · have e:(((a.length:Nat):Int)!=((b.length:Nat):Int))=true:=bne_t (by omega);rw[e,cond_true];have:¬a=b:=fun h=>hl (by rw[h]);simp[this]
def same0 (p q:Place):Bool:=((decide (p.1=q.1)&&decide (p.2.1.1=q.2.1.1))&&decide (p.2.1.2.1=q.2.1.2.1))&&(p.2.2.1==q.2.2.1)
theorem qoz {r:Rules} {p q:Place} (h:Valid r p):qbW p q=some (same0 p q):=by
  have h64:=qbB h;have t6:=h.r0.t6;have l0:p.2.1.1.length=r.pieces.length:=h.l0;have l1:p.2.1.2.1.length=r.pieces.length:=h.l1;unfold qbW same0;rw[qq0 _ _ (by omega),qq0 _ _ (by omega),qq0 _ _ (by omega)]
  have hg:∀b c:Bool,gopt b false (some c)=some (b&&c):=fun b c=>by cases b<;>rfl
  simp only[hg,Option.bind_some,Option.some.injEq]
  cases decide (p.1=q.1)<;>cases decide (p.2.1.1=q.2.1.1)<;>cases decide (p.2.1.2.1=q.2.1.2.1)<;>cases (p.2.2.1==q.2.2.1)<;>rfl
theorem qs6 {r:Rules} {p:Place} (h:Valid r p):qdN p=some p:=by
  have h64:=qbB h;have t6:=h.r0.t6;have l0:p.2.1.1.length=r.pieces.length:=h.l0;have l1:p.2.1.2.1.length=r.pieces.length:=h.l1;unfold qdN;simp only[agree_self];rw[qei _ (by omega),Option.bind_some,qei _ (by omega),Option.bind_some,qei _ (by omega)];rfl
theorem qsV (s:List (Int×Int×Int×Int×Unit)) (h:s.length≤1000000):qaS s=some s:=by
  unfold qaS;have:room (([]:List (Int×Int×Int×Int×Unit)).length+s.length) 32=true:=qZ (by simp;omega);rw[this]
  cases s with
  | nil=>simp[qb,agree_self]
  | cons a l=>simp[qb]
theorem qsB (s:List (Int×Int×Int×Bool×Unit)) (h:s.length≤1000000):qam s=some s:=by
  unfold qam;have:room (([]:List (Int×Int×Int×Bool×Unit)).length+s.length) 32=true:=qZ (by simp;omega);rw[this]
  cases s with
  | nil=>simp[qb,agree_self]
  | cons a l=>simp[qb]
theorem qsX {r:Rules} (h:VR0 r):qeT r=some r:=by
  have t6:r.2.2.2.1.length≤6:=h.t6;have e6:r.2.2.2.2.2.2.2.1.length≤6:=h.ends6;have hs:((r.2.2.2.2.1.length:Nat):Int)=r.width*r.height:=h.start;have ha:=h.area;unfold qeT;simp only[agree_self]
  have hL:=qd9 (f:=qcI r) r.2.2.2.1.length (fun i=>(((i:Int),()),((r.1,(r.2.1,(r.2.2.1,(r.2.2.2.1.take i,r.2.2.2.2)))),()))) ((),((r.1,(r.2.1,(r.2.2.1,(r.2.2.2.1,r.2.2.2.2)))),())) (fun i hi=>by
    unfold qcI;simp only[show decide ((i:Int)<((r.2.2.2.1.length:Nat):Int))=true by simp;omega,cond_true];rw[at?_eq _ _ (by omega) (by omega),Option.bind_some];simp only[Int.toNat_natCast];rw[qsV _ (by have:r.2.2.2.1[i].2.2.2.1.length≤16:=h.ways _ (List.getElem_mem hi);omega),Option.bind_some];have hroom:∀z:Piece,room ((r.2.2.2.1.take i).length+[z].length) 48=true:=fun z=>qZ (by simp;omega);rw[hroom,qb,qg (n:=(i:Int)+1) (by omega) (by omega),List.take_succ_eq_append_getElem hi]
    rfl) (by
    unfold qcI
    simp only[show decide (((r.2.2.2.1.length:Nat):Int)<((r.2.2.2.1.length:Nat):Int))=false by simp,cond_false,List.take_length])
  have hL':iterW (qcI r) (((0:Int),()),((r.1,(r.2.1,(r.2.2.1,(([]:List Piece),r.2.2.2.2)))),()))=_:=hL;rw[hL',Option.bind_some,qei _ (by omega),Option.bind_some,qsB _ (by omega)];rfl
theorem qrl {r:Rules} {p:Place} (c:qu r=0) (h:Valid r p):qar r p=0:=by
  unfold qar;rw[if_neg (by simp[c])];have h1:qhB r p=false:=by
    unfold qhB;rw[bne_f h.cells,bne_f (by have:=h.l0;omega),bne_f (by have:=h.l1;omega)];rfl
  have h2:qe2 r p=false:=by
    unfold qe2;have a1:p.cells.any (outC r)=false:=by
      rw[List.any_eq_false];intro x hx;have:=h.cell x hx;simp[outC];omega
    have a2:(p.h0++p.h1).any outH=false:=by
      rw[List.any_eq_false];intro x hx;have:0≤x∧x≤1000:=(List.mem_append.1 hx).elim (h.hand0 x) (h.hand1 x);simp[outH];omega
    have a3:outT p=false:=by
      have hq:=h.quiet;have ht:=h.turn;simp[outT];omega
    rw[a1,a2,a3];rfl
  rw[h1,h2];rfl
def dP:Place:=([],(([],([],())),((0:Int),((0:Int),()))))
def lastP (l:List Place):Place:=getD' l (l.length-1) dP
def qhZ (l:List Place):Nat:=l.countP fun p=>same0 p (lastP l)
def qfp (r:Rules) (l:List Place):Int:=bif ((qcx r (lastP l)==0)&&(r.repeats !=0))&&decide (((qhZ l:Nat):Int)≥r.repeats) then 3 else qcx r (lastP l)
structure OKG (r:Rules) (s:List Place×List Mv):Prop where
  ok:qu r=0
  all:∀p∈s.1,Valid r p
  len:s.1.length=s.2.length+1
  most:s.2.length≤400
theorem qrm {l:List Place} (h:0<l.length):lastP l∈l:=by
  unfold lastP;rw[gd_eq l (l.length-1) (by omega)];exact List.getElem_mem _
theorem OKG.last {r:Rules} {s:List Place×List Mv} (h:OKG r s):Valid r (lastP s.1):=h.all _ (qrm (by have:=h.len;omega))
def stepG (r:Rules) (s:List Place×List Mv) (m:Mv):Int:=if qfp r s.1=0 then if qv r (lastP s.1) m=true then if s.2.length=400 then 9 else 0 else 13 else 14
def nextG (r:Rules) (s:List Place×List Mv) (m:Mv):List Place×List Mv:=(s.1++[qly r (lastP s.1) m],s.2++[m])
theorem qrd {r:Rules} {s:List Place×List Mv} {m:Mv} (h:OKG r s) (c:stepG r s m=0):OKG r (nextG r s m):=by
  unfold stepG at c;by_cases c1:qfp r s.1=0
  · rw[if_pos c1] at c;by_cases c2:qv r (lastP s.1) m=true
    · rw[if_pos c2] at c;by_cases c3:s.2.length=400
      · rw[if_pos c3] at c;cases c
      · have hl:=h.len;have hm:=h.most;refine⟨h.ok,fun p hp=>?_,by unfold nextG;simp;omega,by unfold nextG;simp;omega⟩;rcases List.mem_append.1 hp with hp | hp
        · exact h.all p hp
        · rw[List.mem_singleton.1 hp];exact qqG h.last c2
    · rw[if_neg c2] at c;cases c
  · rw[if_neg c1] at c;cases c
noncomputable def cntF (L:List Place) (c i:Int):Option (((Int×Int×Unit)×Unit) ⊕ ((Int×Unit)×Unit)) :=
  bif (decide (i<((L.length:Nat):Int))) then(req (inb i L.length) (Option.bind (req (inb (w64 (((L.length:Nat):Int)-1)) L.length) (Option.bind (qbW (getD' L i.toNat dP) (getD' L (w64 (((L.length:Nat):Int)-1)).toNat dP)) fun x=>some ((x,()),()))) fun x:(Bool×Unit)×Unit =>
    Option.bind (bif x.1.1 then some ((w64 (c+1),()),()) else some ((c,()),())) fun y:(Int×Unit)×Unit=>some (Sum.inl ((y.1.1,w64 (i+1),()),()))))
  else some (Sum.inr ((c,()),()))
theorem qjS {A:Type} {L:List A} (h0:0<L.length) (h:L.length≤1000000000):w64 (((L.length:Nat):Int)-1)=((L.length-1:Nat):Int):=by
  rw[qg (by omega) (by omega)];omega
abbrev Game:=Rules×List Place×List Mv×Unit
theorem atP {L:List Place} (h0:0<L.length):at? L ((L.length-1:Nat):Int)=some (lastP L):=by
  rw[at?_eq _ _ (by omega) (by omega)];unfold lastP;rw[gd_eq L _ (by omega)];simp
theorem qqc {r:Rules} {s:List Place×List Mv} (h:OKG r s):qcu (r,(s.1,(s.2,())))=some ((qhZ s.1:Nat):Int):=by
  obtain⟨l,ms⟩:=s;have hl:l.length=ms.length+1:=h.len;have hm:ms.length≤400:=h.most;have hw:=qjS (L:=l) (by omega) (by omega)
  have:=qju l (fun p=>same0 p (lastP l)) (qbl (r,(l,(ms,())))) (fun c=>((c,()),())) (fun i hi c hc0 hc1=>by
    unfold qbl;simp only[agree_self];rw[ltd l i hi,cond_true,at?_eq l _ (by omega) (by omega),Option.bind_some,hw,atP (by omega),Option.bind_some];simp only[Int.toNat_natCast];rw[qoz (h.all _ (List.getElem_mem hi)),Option.bind_some,Option.bind_some];show Option.bind (bif same0 l[i] (lastP l) then _ else _) _=_;rw[qg (n:=c+1) (by omega) (by omega),qg (n:=(i:Int)+1) (by omega) (by omega)];cases same0 l[i] (lastP l)<;>rfl) (fun c=>by
    unfold qbl;simp only
    rw[nltd,cond_false])
  unfold qcu;rw[this];rfl
theorem qjN {r:Rules} {s:List Place×List Mv} (h:OKG r s):qaH (r,(s.1,(s.2,())))=some (qfp r s.1):=by
  have hl:=h.len;have hm:=h.most;have hw:=qjS (L:=s.1) (by omega) (by omega);have hrep:r.2.2.2.2.2.2.2.2.2.2.1=r.repeats:=rfl;unfold qaH;simp only[agree_self,hw,atP (show 0<s.1.length by omega),qk6 h.last,Option.bind_some,qqc h,hrep];unfold qfp
  cases hc:((qcx r (lastP s.1)==0)&&(r.repeats !=0)) with
  | true =>
    simp only[gopt,cond_true,Option.bind_some,Bool.true_and]
    cases decide (((qhZ s.1:Nat):Int)≥r.repeats)<;>rfl
  | false=>rfl
theorem qmm {r:Rules} {s:List Place×List Mv} (h:OKG r s):qaD (r,(s.1,(s.2,())))=some (lastP s.1):=by
  have hl:=h.len;have hm:=h.most;have hw:=qjS (L:=s.1) (by omega) (by omega);unfold qaD;simp only[hw,atP (show 0<s.1.length by omega),qs6 h.last,Option.bind_some,pl_eta]
theorem play_spec {r:Rules} {s:List Place×List Mv} (h:OKG r s) (m:Mv):qbR (r,(s.1,(s.2,()))) m=some (if stepG r s m=0 then((r,((nextG r s m).1,((nextG r s m).2,()))),0) else((r,(s.1,(s.2,()))),stepG r s m)):=by
  obtain⟨l,ms⟩:=s;have hl:l.length=ms.length+1:=h.len;have hm:ms.length≤400:=h.most;have hv:=h.last;simp only at hv;have hw:=qjS (L:=l) (by omega) (by omega);have hi:=inbN l (l.length-1) (by omega);have hla:getD' l (l.length-1) (([],(([],([],())),((0:Int),((0:Int),())))):Place)=lastP l:=rfl;have hres:=qjN h;simp only at hres;unfold qbR;simp only[agree_self,hw,hi,qb,Int.toNat_natCast,hla,hres,Option.bind_some];unfold stepG;by_cases c1:qfp r l=0
  · rw[bne_f c1,cond_false];simp only[if_pos c1];rw[qk9 hv,Option.bind_some,qjr _ _ (by have:=qlN hv;omega),Option.bind_some,Option.bind_some]
    have hmem:decide (m∈qe8 r (lastP l))=qv r (lastP l) m:=by rw[Bool.eq_iff_iff,decide_eq_true_eq,qhO]
    rw[hmem];by_cases c2:qv r (lastP l) m=true
    · simp only[if_pos c2];rw[c2,Bool.not_true,cond_false];by_cases c3:ms.length=400
      · rw[beq_t (by omega),cond_true];simp only[if_pos c3];rfl
      · rw[beq_f (by omega),cond_false,qov hv c2,Option.bind_some];simp only[if_neg c3,if_true];have hroom:∀z:Place,room (l.length+[z].length) 88=true:=fun z=>qZ (by simp;omega);have hroom2:room (ms.length+[m].length) 24=true:=qZ (by simp;omega);rw[hroom,qb,Option.bind_some];simp only;rw[hroom2,qb];rfl
    · simp only[if_neg c2];rw[show qv r (lastP l) m=false by simpa using c2];rfl
  · rw[bne_t c1,cond_true];simp only[if_neg c1];rfl
def runG (r:Rules):List Mv→List Place×List Mv→(List Place×List Mv) ⊕ Int
  | [],s => .inl s
  | m::k,s=>if stepG r s m=0 then runG r k (nextG r s m) else .inr (stepG r s m)
theorem run_ok {r:Rules}:∀(k:List Mv) (s s':List Place×List Mv),OKG r s→runG r k s = .inl s'→OKG r s'∧s'.2=s.2++k
  | [],s,s',h,e=>by cases e;exact⟨h,by simp⟩
  | m::k,s,s',h,e=>by
    unfold runG at e;split at e
    · rename_i c;obtain⟨a,b⟩:=run_ok k _ _ (qrd h c) e;refine⟨a,?_⟩;rw[b];unfold nextG;simp
    · cases e
def flG (g:Game):ByteArray×Int×Int×(List (Int×Int×Int×(List (Int×Int×Int×Int×Unit))×Unit))×(List Int)×Bool×Bool×(List (Int×Int×Int×Bool×Unit))×Int×Int×Int×(List Place)×(List Mv)×Unit :=
  (g.1.1,(g.1.2.1,(g.1.2.2.1,(g.1.2.2.2.1,(g.1.2.2.2.2.1,(g.1.2.2.2.2.2.1,(g.1.2.2.2.2.2.2.1,(g.1.2.2.2.2.2.2.2.1,(g.1.2.2.2.2.2.2.2.2.1,(g.1.2.2.2.2.2.2.2.2.2.1,(g.1.2.2.2.2.2.2.2.2.2.2.1,(g.2.1,(g.2.2.1,())))))))))))))
def gm (r:Rules) (s:List Place×List Mv):Game:=(r,(s.1,(s.2,())))
theorem qpX {r:Rules} {T R:Type} (l:List Mv) (hlen:l.length≤1000000000) (f:T→Option (T ⊕ R)) (st:Int→Game→T) (bad:Int→R) (fin:List Place×List Mv→R)
    (hf:∀i s,f (st i (gm r s))=bif (decide (i<((l.length:Nat):Int))) then(Option.bind (at? l i) fun m=>Option.bind (qbR (r,(s.1,(s.2,()))) m) fun x=>bif (x.2 !=0) then some (.inr (bad x.2)) else some (.inl (st (w64 (i+1)) x.1))) else some (.inr (fin s))) :
    ∀(k:Nat) (i:Nat) (s:List Place×List Mv),i+k=l.length→OKG r s→iterW f (st (i:Int) (gm r s))=some (match runG r (l.drop i) s with
      | .inl s'=>fin s'
      | .inr e=>bad e)
  | 0,i,s,hi,h=>by
    have:i=l.length:=by omega
    subst this;refine qj ?_;rw[hf,nltd,cond_false,List.drop_length];rfl
  | k+1,i,s,hi,h=>by
    have hil:i<l.length:=by omega
    have hL:=hf (i:Int) s;rw[ltd l i hil,cond_true,at?_eq l _ (by omega) (by omega),Option.bind_some,play_spec h,Option.bind_some] at hL;simp only[Int.toNat_natCast] at hL;rw[List.drop_eq_getElem_cons hil];unfold runG;by_cases c:stepG r s l[i]=0
    · rw[if_pos c] at hL;simp only[bne_self_eq_false,cond_false] at hL;rw[qg (by omega) (by omega)] at hL;rw[qo hL,if_pos c];exact qpX l hlen f st bad fin hf k (i+1) _ (by omega) (qrd h c)
    · rw[if_neg c] at hL;simp only[bne_t c,cond_true] at hL;rw[qj hL,if_neg c]
theorem qlZ {r:Rules} (c:qu r=0):OKG r ([qbp r],[]):=⟨c,fun p hp=>by rw[List.mem_singleton.1 hp];exact qp9 (qcl c),rfl,by simp⟩
def qhk (r:Rules) (l:List Mv):(List Place×List Mv) ⊕ Int:=runG r l ([qbp r],[])
abbrev FlP:=List Int×List Int×List Int×Int×Int×Unit
def flp (p:Place):FlP:=(p.1,(p.2.1.1,(p.2.1.2.1,p.2.2)))
def qsa (r:Rules) (l:List Mv):Place×Int×Int×Unit:=if qu r=0 then(match qhk r l with
    | .inl s=>(lastP s.1,(qfp r s.1,(0,())))
    | .inr e=>(dP,(0,(e,())))) else(dP,(0,(qu r,())))
theorem qr6 (r:Rules) (l:List Mv) (hr:Rng qR r) (hl:l.length≤1000000000):qag r l=some (qsa r l):=by
  unfold qag qsa;rw[qmR r hr,Option.bind_some];by_cases c:qu r=0
  · simp only[if_pos c];rw[show((0:Int)!=0)=false from rfl,cond_false];simp only[agree_self];rw[qsX (qcl c),Option.bind_some];have hP:=qpX (r:=r) l hl (qhQ l) (fun i g=>((i,()),(flp dP,(flG g,())))) (fun e => .inr (dP,(0,(e,())))) (fun s => .inl ((),(flp dP,(flG (gm r s),()))))
      (fun i s=>by rfl) l.length 0 ([qbp r],[]) (by omega) (qlZ c)
    rw[List.drop_zero] at hP;have hP':iterW (qhQ l) (((0:Int),()),((([]:List Int),(([]:List Int),(([]:List Int),((0:Int),((0:Int),()))))),(r.1,(r.2.1,(r.2.2.1,(r.2.2.2.1,(r.2.2.2.2.1,(r.2.2.2.2.2.1,(r.2.2.2.2.2.2.1,(r.2.2.2.2.2.2.2.1,(r.2.2.2.2.2.2.2.2.1,(r.2.2.2.2.2.2.2.2.2.1,(r.2.2.2.2.2.2.2.2.2.2.1,([((qbp r).1,(((qbp r).2.1.1,((qbp r).2.1.2.1,())),(qbp r).2.2))],(([]:List Mv),()))))))))))))),()))=_:=hP
    try simp only[Option.bind_some,bne_self_eq_false,cond_false]
    rw[hP',Option.bind_some];unfold qhk
    cases hg:runG r l ([qbp r],[]) with
    | inr e=>rfl
    | inl s =>
      have hok:=(run_ok l _ _ (qlZ c) hg).1;simp only[Sum.elim_inl];change Option.bind (qaD (r,(s.1,(s.2,())))) (fun r16=>Option.bind (qaH (r,(s.1,(s.2,())))) fun r17=>some ((r16.1,((r16.2.1.1,(r16.2.1.2.1,())),r16.2.2)),(r17,((0:Int),()))))=_;rw[qmm hok,Option.bind_some,qjN hok,Option.bind_some]
  · simp only[if_neg c];rw[bne_t c,cond_true,cond_true];rfl
end Go.Proofs.YthidcmjpbokeeaaGreat
